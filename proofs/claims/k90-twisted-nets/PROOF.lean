import PyProof.Rows.All
import PySem.Challenge.RW_freelots_k90_twisted_nets
import HandS.ForMost
import HandS.Wide
import HandS.IsInst
import HandS.TupAny
import HandS.Conv
import HandS.Style
import HandS.DeepEq
import HandS.More
import KE.SortData
import HandS.Sort
import HandS.SetFor
import HandS.Strs
import PyProof.ReprRoads
import HandS.NoneIn
import HandS.Small
import PyProof.ReprLen
set_option Elab.async false
set_option linter.all false
set_option maxRecDepth 100000
/-! FvA: data over the abstract heap: what is hidden (Own), Sub, Rp. -/
namespace Fv
open PySem L2

abbrev D := PyData
abbrev Own := Addr → Bool
def hide (O : Own) (H : Hp) : Hp := fun a => if O a = true then none else H a
theorem hide_out {O : Own} {H : Hp} {a : Addr} (h : O a = false) : hide O H a = H a := by unfold hide; rw [h]; rfl
theorem hide_in {O : Own} {H : Hp} {a : Addr} (h : O a = true) : hide O H a = none := by unfold hide; rw [h]; rfl
theorem of_hide {O : Own} {H : Hp} {a : Addr} {o : HO} (h : hide O H a = some o) : H a = some o ∧ O a = false := by
  unfold hide at h
  by_cases e : O a = true
  · rw [if_pos e] at h; cases h
  · rw [if_neg e] at h; exact ⟨h, by simpa using e⟩

/-- what is read as data in F is read so in H -/
structure Sub (F H : Hp) : Prop where
  lst : ∀ a xs, Rd F a (.lst xs) → Rd H a (.lst xs)
  tup : ∀ a xs, F a = some (.tup xs) → H a = some (.tup xs)
  dK : ∀ a ks, Rd F a (.dK ks) → Rd H a (.dK ks)
  dT : ∀ a ks, Rd F a (.dT ks) → Rd H a (.dT ks)
theorem Sub.refl (H : Hp) : Sub H H := ⟨fun _ _ h => h, fun _ _ h => h, fun _ _ h => h, fun _ _ h => h⟩
theorem Sub.trans {F G H : Hp} (a : Sub F G) (b : Sub G H) : Sub F H :=
  ⟨fun x y h => b.lst x y (a.lst x y h), fun x y h => b.tup x y (a.tup x y h), fun x y h => b.dK x y (a.dK x y h), fun x y h => b.dT x y (a.dT x y h)⟩
theorem rd_same {H H' : Hp} {a : Addr} {u : HO} (e : Same H H') (h : Rd H a u) : Rd H' a u := by
  rcases h with h | ⟨o, h⟩
  · exact .inl (e a _ h)
  · exact .inr ⟨o, e a _ h⟩
theorem same_sub {H H' : Hp} (e : Same H H') : Sub H H' := ⟨fun _ _ h => rd_same e h, fun a xs h => e a _ h, fun _ _ h => rd_same e h, fun _ _ h => rd_same e h⟩
theorem same_hide {H H' : Hp} (e : Same H H') (O : Own) : Same (hide O H) (hide O H') := fun a o h => by
  obtain ⟨h1, h2⟩ := of_hide h
  rw [hide_out h2]
  exact e a o h1
theorem same_less {O P : Own} {H : Hp} (h : ∀ a, P a = true → O a = true) : Same (hide O H) (hide P H) := fun a o e => by
  obtain ⟨h1, h2⟩ := of_hide e
  rw [hide_out (by cases q : P a with
    | true => rw [h a q] at h2; cases h2
    | false => rfl)]
  exact h1
theorem same_new {H : Hp} {p : Addr} {o : HO} (h : H p = none) : Same H (upd H p o) := fun b x e => by
  rw [upd_ne (ne_of_none e h)]
  exact e

def keyD : Key → D
  | .inl i => .int i
  | .inr x => .str x
def keyT (k : List Key) : D := .tuple (k.map keyD)

/-- v at H is the data d -/
inductive Rp (H : Hp) : V → D → Prop
  | non : Rp H .non .none
  | bl (b : Bool) : Rp H (.bl b) (.bool b)
  | int (i : Int) : Rp H (.int i) (.int i)
  | str (x : Str) : Rp H (.str x) (.str x)
  | lst {a : Addr} {xs : List V} {ds : List D} : Rd H a (.lst xs) → Paired (Rp H) xs ds → Rp H (.ref a) (.list ds)
  | tup {a : Addr} {xs : List V} {ds : List D} : H a = some (.tup xs) → Paired (Rp H) xs ds → Rp H (.ref a) (.tuple ds)
  | dK {a : Addr} {ks : List (Key × V)} {kvs : List (D × D)} : Rd H a (.dK ks) → kvs.map (·.1) = ks.map (fun p => keyD p.1) → Paired (Rp H) (ks.map (·.2)) (kvs.map (·.2)) → Rp H (.ref a) (.dict kvs)
  | dT {a : Addr} {ks : List (List Key × V)} {kvs : List (D × D)} : Rd H a (.dT ks) → kvs.map (·.1) = ks.map (fun p => keyT p.1) → Paired (Rp H) (ks.map (·.2)) (kvs.map (·.2)) → Rp H (.ref a) (.dict kvs)
abbrev RpA (H : Hp) : List V → List D → Prop := Paired (Rp H)
mutual
theorem Rp.mono {F H : Hp} (e : Sub F H) : ∀ (d : D) (v : V), Rp F v d → Rp H v d
  | .none, v, h => by cases h; exact .non
  | .bool b, v, h => by cases h; exact .bl b
  | .int i, v, h => by cases h; exact .int i
  | .str x, v, h => by cases h; exact .str x
  | .list ds, v, h => by cases h with | lst h1 h2 => exact .lst (e.lst _ _ h1) (RpA.mono e ds _ h2)
  | .tuple ds, v, h => by cases h with | tup h1 h2 => exact .tup (e.tup _ _ h1) (RpA.mono e ds _ h2)
  | .dict kvs, v, h => by
    cases h with
    | dK h1 h2 h3 => exact .dK (e.dK _ _ h1) h2 (RpV.mono e kvs _ h3)
    | dT h1 h2 h3 => exact .dT (e.dT _ _ h1) h2 (RpV.mono e kvs _ h3)
theorem RpA.mono {F H : Hp} (e : Sub F H) : ∀ (ds : List D) (vs : List V), RpA F vs ds → RpA H vs ds
  | [], vs, h => by cases h; exact .nil
  | d :: ds, vs, h => by cases h with | cons h1 h2 => exact .cons (Rp.mono e d _ h1) (RpA.mono e ds _ h2)
theorem RpV.mono {F H : Hp} (e : Sub F H) : ∀ (kvs : List (D × D)) (vs : List V), RpA F vs (kvs.map (·.2)) → RpA H vs (kvs.map (·.2))
  | [], vs, h => by cases h; exact .nil
  | (_, d) :: ds, vs, h => by cases h with | cons h1 h2 => exact .cons (Rp.mono e d _ h1) (RpV.mono e ds _ h2)
end
theorem Rp.up {H H' : Hp} {O : Own} {v : V} {d : D} (e : Same H H') (h : Rp (hide O H) v d) : Rp (hide O H') v d := h.mono (same_sub (same_hide e O))
theorem RpA.up {H H' : Hp} {O : Own} {v : List V} {d : List D} (e : Same H H') (h : RpA (hide O H) v d) : RpA (hide O H') v d := RpA.mono (same_sub (same_hide e O)) _ _ h
/-- no object hangs on it -/
def flat : D → Bool
  | .none | .bool _ | .int _ | .str _ => true
  | _ => false
theorem Rp.flat {H H' : Hp} {v : V} {d : D} (h : Rp H v d) (f : flat d = true) : Rp H' v d := by
  cases h with
  | non => exact .non
  | bl b => exact .bl b
  | int i => exact .int i
  | str x => exact .str x
  | lst _ _ => cases f
  | tup _ _ => cases f
  | dK _ _ _ => cases f
  | dT _ _ _ => cases f
-- without dicts it is the layer own data
mutual
theorem Rp.dp {K : PySem.W.Frag} {F H : Hp} (e : Sub F H) : ∀ (d : D) (v : V), Rp F v d → d.canLay0 = true → Dp K H v d
  | .none, v, h, _ => by cases h; exact .non
  | .bool b, v, h, _ => by cases h; exact .bl b
  | .int i, v, h, _ => by cases h; exact .int i
  | .str x, v, h, _ => by cases h; exact .str x
  | .list ds, v, h, c => by cases h with | lst h1 h2 => exact .lst (.inl (e.lst _ _ h1)) (RpA.dp e ds _ h2 (by simpa [PyData.canLay0] using c))
  | .tuple ds, v, h, c => by cases h with | tup h1 h2 => exact .tup (.inl (.inl (e.tup _ _ h1))) (RpA.dp e ds _ h2 (by simpa [PyData.canLay0] using c))
  | .dict kvs, v, h, c => by simp [PyData.canLay0] at c
theorem RpA.dp {K : PySem.W.Frag} {F H : Hp} (e : Sub F H) : ∀ (ds : List D) (vs : List V), RpA F vs ds → PyData.canLayAll0 ds = true → DpAll K H vs ds
  | [], vs, h, _ => by cases h; exact .nil
  | d :: ds, vs, h, c => by
    have c' : d.canLay0 = true ∧ PyData.canLayAll0 ds = true := by simpa [PyData.canLayAll0] using c
    cases h with | cons h1 h2 => exact .cons (Rp.dp e d _ h1 c'.1) (RpA.dp e ds _ h2 c'.2)
end
/-- .. and back, of a list of data that stands in the heap -/
theorem pair_len {α β : Type} {F : α → β → Prop} : ∀ {xs : List α} {ys : List β}, Paired F xs ys → xs.length = ys.length
  | _, _, .nil => rfl
  | _, _, .cons _ t => by simp [pair_len t]
theorem pair_get {α β : Type} {F : α → β → Prop} : ∀ {xs : List α} {ys : List β} {i : Nat} {y : β}, Paired F xs ys → ys[i]? = some y → ∃ x, xs[i]? = some x ∧ F x y
  | _, _, _, _, .nil, h => by simp at h
  | _, _, 0, _, .cons r _, h => by simp at h; subst h; exact ⟨_, rfl, r⟩
  | _, _, i + 1, _, .cons _ t, h => by
    obtain ⟨x, h1, h2⟩ := pair_get (i := i) t (by simpa using h)
    exact ⟨x, by simpa using h1, h2⟩
theorem pair_get' {α β : Type} {F : α → β → Prop} : ∀ {xs : List α} {ys : List β} {i : Nat} {x : α}, Paired F xs ys → xs[i]? = some x → ∃ y, ys[i]? = some y ∧ F x y
  | _, _, _, _, .nil, h => by simp at h
  | _, _, 0, _, .cons r _, h => by simp at h; subst h; exact ⟨_, rfl, r⟩
  | _, _, i + 1, _, .cons _ t, h => by
    obtain ⟨x, h1, h2⟩ := pair_get' (i := i) t (by simpa using h)
    exact ⟨x, by simpa using h1, h2⟩
theorem pair_app {α β : Type} {F : α → β → Prop} : ∀ {xs xs' : List α} {ys ys' : List β}, Paired F xs ys → Paired F xs' ys' → Paired F (xs ++ xs') (ys ++ ys')
  | _, _, _, _, .nil, h => h
  | _, _, _, _, .cons r t, h => .cons r (pair_app t h)
theorem pair_take {α β : Type} {F : α → β → Prop} : ∀ {xs : List α} {ys : List β} (n : Nat), Paired F xs ys → Paired F (xs.take n) (ys.take n)
  | _, _, 0, _ => by simp; exact .nil
  | _, _, n + 1, .nil => .nil
  | _, _, n + 1, .cons r t => .cons r (pair_take n t)
theorem pair_drop {α β : Type} {F : α → β → Prop} : ∀ {xs : List α} {ys : List β} (n : Nat), Paired F xs ys → Paired F (xs.drop n) (ys.drop n)
  | _, _, 0, h => by simpa using h
  | _, _, n + 1, .nil => .nil
  | _, _, n + 1, .cons r t => pair_drop n t
theorem pair_set {α β : Type} {F : α → β → Prop} {x : α} {y : β} (r : F x y) : ∀ {xs : List α} {ys : List β} (n : Nat), Paired F xs ys → Paired F (xs.set n x) (ys.set n y)
  | _, _, 0, .nil => .nil
  | _, _, n + 1, .nil => .nil
  | _, _, 0, .cons q t => .cons r t
  | _, _, n + 1, .cons q t => .cons q (pair_set r n t)
theorem pair_del {α β : Type} {F : α → β → Prop} : ∀ {xs : List α} {ys : List β} (n : Nat), Paired F xs ys → Paired F (xs.eraseIdx n) (ys.eraseIdx n)
  | _, _, _, .nil => by simp; exact .nil
  | _, _, 0, .cons _ t => by simpa using t
  | _, _, n + 1, .cons q t => .cons q (pair_del n t)
theorem pair_imp {α β : Type} {F G : α → β → Prop} (h : ∀ x y, F x y → G x y) : ∀ {xs : List α} {ys : List β}, Paired F xs ys → Paired G xs ys
  | _, _, .nil => .nil
  | _, _, .cons r t => .cons (h _ _ r) (pair_imp h t)
theorem pair_rev {α β : Type} {F : α → β → Prop} : ∀ {xs : List α} {ys : List β}, Paired F xs ys → Paired F xs.reverse ys.reverse
  | _, _, .nil => .nil
  | _, _, .cons r t => by
    rw [List.reverse_cons, List.reverse_cons]
    exact pair_app (pair_rev t) (.cons r .nil)
theorem pair_rep {α β : Type} {F : α → β → Prop} {xs : List α} {ys : List β} (h : Paired F xs ys) : ∀ n : Nat, Paired F (List.replicate n xs).flatten (List.replicate n ys).flatten
  | 0 => by simp; exact .nil
  | n + 1 => by
    rw [List.replicate_succ, List.replicate_succ, List.flatten_cons, List.flatten_cons]
    exact pair_app h (pair_rep h n)
theorem rp_ints {H : Hp} : ∀ {xs : List V} {ns : List Int}, RpA H xs (ns.map .int) → xs = ns.map V.int
  | _, [], h => by cases h; rfl
  | _, n :: ns, h => by
    cases h with
    | cons r t =>
      cases r
      rw [rp_ints t]
      rfl
theorem ints_rp {H : Hp} : ∀ ns : List Int, RpA H (ns.map V.int) (ns.map .int)
  | [] => .nil
  | n :: ns => .cons (.int n) (ints_rp ns)

/-- what a caller hides stands in the heap, and is no tuple -/
def isTup : HO → Bool
  | .tup _ => true
  | _ => false
def OOk (O : Own) (H : Hp) : Prop := ∀ p, O p = true → ∃ u, H p = some u ∧ isTup u = false
theorem OOk.up {O : Own} {H H' : Hp} (h : OOk O H) (e : Same H H') : OOk O H' := fun p hp => by
  obtain ⟨u, h1, h2⟩ := h p hp
  exact ⟨u, e p u h1, h2⟩
theorem OOk.new {O : Own} {H : Hp} {p : Addr} (h : OOk O H) (n : H p = none) : O p = false := by
  cases q : O p with
  | false => rfl
  | true =>
    obtain ⟨u, h1, _⟩ := h p q
    rw [n] at h1; cases h1
/-- a new object is seen -/
theorem hide_new {O : Own} {H : Hp} {p : Addr} {o : HO} (h : OOk O H) (n : H p = none) : hide O (upd H p o) p = some o := by
  rw [hide_out (h.new n), upd_same]
end Fv

set_option Elab.async false
set_option linter.all false
set_option maxRecDepth 100000
set_option autoImplicit false
/-! FvB: the slots as cells (Sx), and the readings by a pure evaluator: tEv, tTv, tAv, tFv, tIv, tGv, tSv. -/
namespace Fv
open PySem L2

section
variable {κ : Type} [DecidableEq κ]
def valD (kvs : List (κ × D)) (k : κ) : Option D := (kvs.find? fun kv => decide (kv.1 = k)).map (·.2)
def putD (kvs : List (κ × D)) (k : κ) (v : D) : List (κ × D) :=
  if (kvs.any fun kv => decide (kv.1 = k)) = true then kvs.map (fun kv => if kv.1 = k then (kv.1, v) else kv) else kvs ++ [(k, v)]
abbrev KVd (H : Hp) : List (κ × V) → List (κ × D) → Prop := Paired fun (p : κ × V) (q : κ × D) => p.1 = q.1 ∧ Rp H p.2 q.2
theorem kvd_mono {F H : Hp} (e : Sub F H) : ∀ {ks : List (κ × V)} {kvs : List (κ × D)}, KVd F ks kvs → KVd H ks kvs := fun h => pair_imp (fun _ _ ⟨a, b⟩ => ⟨a, b.mono e⟩) h
theorem kvd_val {H : Hp} {k : κ} : ∀ {ks : List (κ × V)} {kvs : List (κ × D)}, KVd H ks kvs → (∃ v d, valV ks k = some v ∧ valD kvs k = some d ∧ Rp H v d) ∨ (valV ks k = none ∧ valD kvs k = none)
  | _, _, .nil => .inr ⟨rfl, rfl⟩
  | (a, v) :: ks, (b, d) :: kvs, .cons ⟨e, r⟩ t => by
    have e' : a = b := e
    subst e'
    by_cases h : a = k
    · refine .inl ⟨v, d, ?_, ?_, r⟩
      · simp [valV, h]
      · simp [valD, h]
    · rcases kvd_val t with ⟨v', d', h1, h2, h3⟩ | ⟨h1, h2⟩
      · refine .inl ⟨v', d', ?_, ?_, h3⟩
        · simpa [valV, h] using h1
        · simpa [valD, h] using h2
      · refine .inr ⟨?_, ?_⟩
        · simpa [valV, h] using h1
        · simpa [valD, h] using h2
theorem kvd_any {H : Hp} {k : κ} : ∀ {ks : List (κ × V)} {kvs : List (κ × D)}, KVd H ks kvs → (ks.any fun kv => decide (kv.1 = k)) = (kvs.any fun kv => decide (kv.1 = k))
  | _, _, .nil => rfl
  | (a, v) :: ks, (b, d) :: kvs, .cons ⟨e, r⟩ t => by
    have e' : a = b := e
    subst e'
    simp only [List.any_cons, kvd_any t]
theorem kvd_put {H : Hp} {k : κ} {v : V} {d : D} (r : Rp H v d) {ks : List (κ × V)} {kvs : List (κ × D)} (h : KVd H ks kvs) : KVd H (putK ks k v) (putD kvs k d) := by
  unfold putK putD
  rw [kvd_any h]
  split
  · rename_i hx; clear hx
    induction h with
    | nil => exact .nil
    | cons q t ih =>
      rename_i p q' _ _
      refine .cons ?_ ih
      obtain ⟨a, v'⟩ := p
      obtain ⟨b, d'⟩ := q'
      obtain ⟨e, r'⟩ := q
      have e' : a = b := e
      subst e'
      by_cases h : a = k
      · simp [h]; exact r
      · simp [h]; exact r'
  · exact pair_app h (.cons ⟨rfl, r⟩ .nil)
theorem kvd_keys {H : Hp} {ks : List (κ × V)} {kvs : List (κ × D)} (h : KVd H ks kvs) : ks.map (·.1) = kvs.map (·.1) := by
  induction h with
  | nil => rfl
  | cons q t ih => rw [List.map_cons, List.map_cons, ih, q.1]
end

inductive Cell where
  | un
  | fz (d : D)
  | ol (ds : List D)
  | ok (kvs : List (Key × D))
  | ot (kvs : List (List Key × D))
abbrev EnvD := List Cell
def Cell.isOwn : Cell → Bool
  | .ol _ | .ok _ | .ot _ => true
  | _ => false
def dictK (kvs : List (Key × D)) : D := .dict (kvs.map fun p => (keyD p.1, p.2))
def dictT (kvs : List (List Key × D)) : D := .dict (kvs.map fun p => (keyT p.1, p.2))
/-- all seen as data -/
def Cell.view : Cell → Cell
  | .ol ds => .fz (.list ds)
  | .ok kvs => .fz (dictK kvs)
  | .ot kvs => .fz (dictT kvs)
  | c => c
def viewE (ρ : EnvD) : EnvD := ρ.map Cell.view

theorem rp_dictK {H : Hp} {a : Addr} {ks : List (Key × V)} {kvs : List (Key × D)} (h : Rd H a (.dK ks)) (r : KVd H ks kvs) : Rp H (.ref a) (dictK kvs) := by
  refine .dK h ?_ ?_
  · rw [List.map_map]
    have e := kvd_keys r
    have e2 : ks.map (fun p => keyD p.1) = (ks.map (·.1)).map keyD := by rw [List.map_map]; rfl
    rw [e2, e, List.map_map]
    rfl
  · rw [List.map_map]
    clear h
    induction r with
    | nil => exact .nil
    | cons q t ih => exact .cons q.2 ih
theorem rp_dictT {H : Hp} {a : Addr} {ks : List (List Key × V)} {kvs : List (List Key × D)} (h : Rd H a (.dT ks)) (r : KVd H ks kvs) : Rp H (.ref a) (dictT kvs) := by
  refine .dT h ?_ ?_
  · rw [List.map_map]
    have e := kvd_keys r
    have e2 : ks.map (fun p => keyT p.1) = (ks.map (·.1)).map keyT := by rw [List.map_map]; rfl
    rw [e2, e, List.map_map]
    rfl
  · rw [List.map_map]
    clear h
    induction r with
    | nil => exact .nil
    | cons q t ih => exact .cons q.2 ih

def uni (O P : Own) : Own := fun a => O a || P a
def addO (O : Own) (p : Addr) : Own := fun a => O a || decide (a = p)
def delO (O : Own) (p : Addr) : Own := fun a => O a && !decide (a = p)
theorem uni_l {O P : Own} {a : Addr} (h : O a = true) : uni O P a = true := by unfold uni; rw [h]; rfl
theorem uni_r {O P : Own} {a : Addr} (h : P a = true) : uni O P a = true := by unfold uni; rw [h, Bool.or_true]
theorem uni_or {O P : Own} {a : Addr} (h : uni O P a = true) : O a = true ∨ P a = true := by simpa [uni] using h
theorem addO_at {O : Own} {p : Addr} : addO O p p = true := by simp [addO]
theorem addO_l {O : Own} {p a : Addr} (h : O a = true) : addO O p a = true := by simp [addO, h]
theorem addO_or {O : Own} {p a : Addr} (h : addO O p a = true) : O a = true ∨ a = p := by simpa [addO] using h
theorem delO_of {O : Own} {p a : Addr} (h : delO O p a = true) : O a = true ∧ a ≠ p := by simpa [delO] using h
theorem delO_mk {O : Own} {p a : Addr} (h : O a = true) (n : a ≠ p) : delO O p a = true := by simp [delO, h, n]

def CellOk (O own : Own) (H : Hp) (x : Option (Option V)) : Cell → Prop
  | .un => True
  | .fz d => ∃ v, x = some (some v) ∧ Rp (hide O H) v d
  | .ol ds => ∃ p xs, x = some (some (.ref p)) ∧ own p = true ∧ H p = some (.lst xs) ∧ RpA (hide O H) xs ds
  | .ok kvs => ∃ p ks, x = some (some (.ref p)) ∧ own p = true ∧ H p = some (.dK ks) ∧ KVd (hide O H) ks kvs
  | .ot kvs => ∃ p ks, x = some (some (.ref p)) ∧ own p = true ∧ H p = some (.dT ks) ∧ KVd (hide O H) ks kvs
/-- the slots σ at the heap H are the cells ρ; B is what a caller keeps, O0 what it hides, own what the def may change -/
structure Sx (B : Hp) (O0 own : Own) (σ : L2.St) (H : Hp) (ρ : EnvD) : Prop where
  base : Same B H
  o0 : OOk O0 B
  ow : ∀ p, own p = true → B p = none ∧ ∃ u, H p = some u ∧ isTup u = false
  len : ρ.length = σ.length
  cell : ∀ (i : Nat) (c : Cell), ρ[i]? = some c → CellOk (uni O0 own) own H σ[i]? c
  dis : ∀ (i j : Nat) (ci cj : Cell) (p : Addr), ρ[i]? = some ci → ρ[j]? = some cj → ci.isOwn = true → cj.isOwn = true → σ[i]? = some (some (.ref p)) → σ[j]? = some (some (.ref p)) → i = j
section
variable {B H H' : Hp} {O0 own : Own} {σ : L2.St} {ρ : EnvD} {i : Nat} {v : V} {d : D} {p : Addr}
theorem CellOk.to {O O' own own' : Own} {x : Option (Option V)} {c : Cell} (h : CellOk O own H x c) (s : Sub (hide O H) (hide O' H'))
    (k : ∀ p u, own p = true → c.isOwn = true → x = some (some (.ref p)) → H p = some u → own' p = true ∧ H' p = some u) : CellOk O' own' H' x c := by
  cases c with
  | un => trivial
  | fz d => obtain ⟨v, e, r⟩ := h; exact ⟨v, e, r.mono s⟩
  | ol ds => obtain ⟨p, xs, e, o, h1, r⟩ := h; exact ⟨p, xs, e, (k p _ o rfl e h1).1, (k p _ o rfl e h1).2, RpA.mono s _ _ r⟩
  | ok ds => obtain ⟨p, xs, e, o, h1, r⟩ := h; exact ⟨p, xs, e, (k p _ o rfl e h1).1, (k p _ o rfl e h1).2, kvd_mono s r⟩
  | ot ds => obtain ⟨p, xs, e, o, h1, r⟩ := h; exact ⟨p, xs, e, (k p _ o rfl e h1).1, (k p _ o rfl e h1).2, kvd_mono s r⟩
theorem Sx.ook (h : Sx B O0 own σ H ρ) : OOk (uni O0 own) H := fun p hp => by
  rcases uni_or hp with q | q
  · obtain ⟨u, h1, h2⟩ := h.o0 p q
    exact ⟨u, h.base p u h1, h2⟩
  · exact (h.ow p q).2
theorem Sx.up (h : Sx B O0 own σ H ρ) (e : Same H H') : Sx B O0 own σ H' ρ where
  base := h.base.trans e
  o0 := h.o0
  ow := fun p hp => by
    obtain ⟨h1, u, h2, h3⟩ := h.ow p hp
    exact ⟨h1, u, e p u h2, h3⟩
  len := h.len
  cell := fun i c hc => (h.cell i c hc).to (same_sub (same_hide e _)) fun p u o _ _ hu => ⟨o, e p u hu⟩
  dis := h.dis
theorem Sx.view (h : Sx B O0 own σ H ρ) : Sx B O0 (fun _ => false) σ H (viewE ρ) where
  base := h.base
  o0 := h.o0
  ow := fun p hp => by cases hp
  len := by unfold viewE; rw [List.length_map]; exact h.len
  cell := fun i c hc => by
    have hs : Same (hide (uni O0 own) H) (hide (uni O0 fun _ => false) H) := same_less fun a ha => by
      rcases uni_or ha with q | q
      · exact uni_l q
      · cases q
    have vis : ∀ {p : Addr} {u : HO}, own p = true → H p = some u → hide (uni O0 fun _ => false) H p = some u := fun {p u} o e => by
      rw [hide_out]
      · exact e
      · cases q : uni O0 (fun _ => false) p with
        | false => rfl
        | true =>
          rcases uni_or q with q | q
          · obtain ⟨u', h1, _⟩ := h.o0 p q
            rw [(h.ow p o).1] at h1; cases h1
          · cases q
    unfold viewE at hc
    rw [List.getElem?_map] at hc
    cases hq : ρ[i]? with
    | none => rw [hq] at hc; cases hc
    | some c' =>
      rw [hq] at hc
      have e : c'.view = c := Option.some.inj hc
      subst e
      have q := h.cell i c' hq
      cases c' with
      | un => trivial
      | fz d => obtain ⟨v, e, r⟩ := q; exact ⟨v, e, r.mono (same_sub hs)⟩
      | ol ds => obtain ⟨p, xs, e, o, h1, r⟩ := q; exact ⟨_, e, .lst (.inl (vis o h1)) (RpA.mono (same_sub hs) _ _ r)⟩
      | ok ds => obtain ⟨p, xs, e, o, h1, r⟩ := q; exact ⟨_, e, rp_dictK (.inl (vis o h1)) (kvd_mono (same_sub hs) r)⟩
      | ot ds => obtain ⟨p, xs, e, o, h1, r⟩ := q; exact ⟨_, e, rp_dictT (.inl (vis o h1)) (kvd_mono (same_sub hs) r)⟩
  dis := fun i j ci cj p h1 _ o1 => by
    unfold viewE at h1
    rw [List.getElem?_map] at h1
    cases hq : ρ[i]? with
    | none => rw [hq] at h1; cases h1
    | some c' =>
      rw [hq] at h1
      have e : c'.view = ci := Option.some.inj h1
      subst e
      cases c' <;> cases o1
theorem Sx.lt (h : Sx B O0 own σ H ρ) {c : Cell} (e : ρ[i]? = some c) : i < σ.length := by rw [← h.len]; exact (List.getElem?_eq_some_iff.mp e).1
/-- a slot is stored: some data -/
theorem Sx.set (h : Sx B O0 own σ H ρ) (hi : i < ρ.length) (r : Rp (hide (uni O0 own) H) v d) : Sx B O0 own (σ.set i (some v)) H (ρ.set i (.fz d)) where
  base := h.base
  o0 := h.o0
  ow := h.ow
  len := by rw [List.length_set, List.length_set]; exact h.len
  cell := fun j c hc => by
    by_cases e : i = j
    · subst e
      rw [List.getElem?_set_self hi] at hc
      have e := Option.some.inj hc
      subst e
      rw [List.getElem?_set_self (by rw [← h.len]; exact hi)]
      exact ⟨v, rfl, r⟩
    · rw [List.getElem?_set_ne e] at hc
      rw [List.getElem?_set_ne e]
      exact h.cell j c hc
  dis := fun a b ca cb p h1 h2 o1 o2 e1 e2 => by
    have na : a ≠ i := fun z => by
      subst z
      rw [List.getElem?_set_self hi] at h1
      have e := Option.some.inj h1
      subst e
      cases o1
    have nb : b ≠ i := fun z => by
      subst z
      rw [List.getElem?_set_self hi] at h2
      have e := Option.some.inj h2
      subst e
      cases o2
    rw [List.getElem?_set_ne (Ne.symm na)] at h1 e1
    rw [List.getElem?_set_ne (Ne.symm nb)] at h2 e2
    exact h.dis a b ca cb p h1 h2 o1 o2 e1 e2
/-- forgotten -/
theorem Sx.drop (h : Sx B O0 own σ H ρ) (hi : i < ρ.length) (x : Option V) : Sx B O0 own (σ.set i x) H (ρ.set i .un) where
  base := h.base
  o0 := h.o0
  ow := h.ow
  len := by rw [List.length_set, List.length_set]; exact h.len
  cell := fun j c hc => by
    by_cases e : i = j
    · subst e
      rw [List.getElem?_set_self hi] at hc
      have e := Option.some.inj hc
      subst e
      trivial
    · rw [List.getElem?_set_ne e] at hc
      rw [List.getElem?_set_ne e]
      exact h.cell j c hc
  dis := fun a b ca cb p h1 h2 o1 o2 e1 e2 => by
    have na : a ≠ i := fun z => by
      subst z
      rw [List.getElem?_set_self hi] at h1
      have e := Option.some.inj h1
      subst e
      cases o1
    have nb : b ≠ i := fun z => by
      subst z
      rw [List.getElem?_set_self hi] at h2
      have e := Option.some.inj h2
      subst e
      cases o2
    rw [List.getElem?_set_ne (Ne.symm na)] at h1 e1
    rw [List.getElem?_set_ne (Ne.symm nb)] at h2 e2
    exact h.dis a b ca cb p h1 h2 o1 o2 e1 e2
theorem same_fresh {O : Own} (e : Same H H') (n : H p = none) : Same (hide O H) (hide (addO O p) H') := fun a u h => by
  obtain ⟨h1, h2⟩ := of_hide h
  have ne : a ≠ p := ne_of_none h1 n
  rw [hide_out (by cases q : addO O p a with
    | false => rfl
    | true => rcases addO_or q with q | q
              · rw [q] at h2; cases h2
              · exact absurd q ne)]
  exact e a u h1
theorem uni_add {O P : Own} : uni O (addO P p) = addO (uni O P) p := by funext a; simp [uni, addO, Bool.or_assoc]
/-- a new object is owned, its slot not told yet -/
theorem Sx.owned (h : Sx B O0 own σ H ρ) (e : Same H H') (n : H p = none) {u : HO} (hp : H' p = some u) (ht : isTup u = false) : Sx B O0 (addO own p) σ H' ρ where
  base := h.base.trans e
  o0 := h.o0
  ow := fun q hq => by
    rcases addO_or hq with z | z
    · obtain ⟨h1, u', h2, h3⟩ := h.ow q z
      exact ⟨h1, u', e q u' h2, h3⟩
    · subst z
      refine ⟨?_, u, hp, ht⟩
      cases z : B q with
      | none => rfl
      | some x => rw [h.base q x z] at n; cases n
  len := h.len
  cell := fun j c hc => (h.cell j c hc).to (by rw [uni_add]; exact same_sub (same_fresh e n)) fun q u' o _ _ hu => ⟨addO_l o, e q u' hu⟩
  dis := h.dis
/-- a slot gets what is owned by no slot -/
theorem Sx.setOwn (h : Sx B O0 own σ H ρ) (hi : i < ρ.length) {c : Cell} (hc : CellOk (uni O0 own) own H (some (some (.ref p))) c) (free : ∀ (j : Nat) (cj : Cell), ρ[j]? = some cj → cj.isOwn = true → σ[j]? ≠ some (some (.ref p))) : Sx B O0 own (σ.set i (some (.ref p))) H (ρ.set i c) where
  base := h.base
  o0 := h.o0
  ow := h.ow
  len := by rw [List.length_set, List.length_set]; exact h.len
  cell := fun j c' hj => by
    by_cases e : i = j
    · subst e
      rw [List.getElem?_set_self hi] at hj
      have e := Option.some.inj hj
      subst e
      rw [List.getElem?_set_self (by rw [← h.len]; exact hi)]
      exact hc
    · rw [List.getElem?_set_ne e] at hj
      rw [List.getElem?_set_ne e]
      exact h.cell j c' hj
  dis := fun a b ca cb q h1 h2 o1 o2 e1 e2 => by
    have hs : i < σ.length := by rw [← h.len]; exact hi
    by_cases na : i = a
    · by_cases nb : i = b
      · exact na.symm.trans nb
      · subst na
        rw [List.getElem?_set_self hs] at e1
        have z : p = q := V.ref.inj (Option.some.inj (Option.some.inj e1))
        subst z
        rw [List.getElem?_set_ne nb] at h2 e2
        exact absurd e2 (free b cb h2 o2)
    · by_cases nb : i = b
      · subst nb
        rw [List.getElem?_set_self hs] at e2
        have z : p = q := V.ref.inj (Option.some.inj (Option.some.inj e2))
        subst z
        rw [List.getElem?_set_ne na] at h1 e1
        exact absurd e1 (free a ca h1 o1)
      · rw [List.getElem?_set_ne na] at h1 e1
        rw [List.getElem?_set_ne nb] at h2 e2
        exact h.dis a b ca cb q h1 h2 o1 o2 e1 e2
theorem cell_ref {O own : Own} {x : Option (Option V)} {c : Cell} (h : CellOk O own H x c) (o : c.isOwn = true) : ∃ p u, x = some (some (.ref p)) ∧ own p = true ∧ H p = some u := by
  cases c with
  | un => cases o
  | fz d => cases o
  | ol ds => obtain ⟨p, xs, e, o, h1, r⟩ := h; exact ⟨p, _, e, o, h1⟩
  | ok ds => obtain ⟨p, xs, e, o, h1, r⟩ := h; exact ⟨p, _, e, o, h1⟩
  | ot ds => obtain ⟨p, xs, e, o, h1, r⟩ := h; exact ⟨p, _, e, o, h1⟩
/-- a slot gets a new owned object -/
theorem Sx.setNew (h : Sx B O0 own σ H ρ) (e : Same H H') (n : H p = none) {u : HO} (hp : H' p = some u) (ht : isTup u = false) (hi : i < ρ.length) {c : Cell} (hc : CellOk (addO (uni O0 own) p) (addO own p) H' (some (some (.ref p))) c) :
    Sx B O0 (addO own p) (σ.set i (some (.ref p))) H' (ρ.set i c) := by
  refine (h.owned e n hp ht).setOwn hi (by rw [uni_add]; exact hc) fun j cj hj oj z => ?_
  obtain ⟨q, u', e1, _, e2⟩ := cell_ref (h.cell j cj hj) oj
  rw [z] at e1
  have y : p = q := V.ref.inj (Option.some.inj (Option.some.inj e1))
  subst y
  rw [n] at e2; cases e2
/-- an owned object is changed -/
theorem Sx.write (h : Sx B O0 own σ H ρ) {ci c : Cell} (hci : ρ[i]? = some ci) (oc : ci.isOwn = true) (hs : σ[i]? = some (some (.ref p))) {u : HO} (ht : isTup u = false) (hc : ∀ H', H' p = some u → hide (uni O0 own) H' = hide (uni O0 own) H → own p = true → CellOk (uni O0 own) own H' (some (some (.ref p))) c) :
    Sx B O0 own σ (upd H p u) (ρ.set i c) := by
  obtain ⟨q, u', e1, op, e2⟩ := cell_ref (h.cell i ci hci) oc
  rw [hs] at e1
  have y : p = q := V.ref.inj (Option.some.inj (Option.some.inj e1))
  subst y
  have hh : hide (uni O0 own) (upd H p u) = hide (uni O0 own) H := by
    funext a
    unfold hide
    by_cases z : a = p
    · subst z
      rw [uni_r op]
      rfl
    · rw [upd_ne z]
  have hi : i < ρ.length := (List.getElem?_eq_some_iff.mp hci).1
  refine ⟨fun a o e => ?_, h.o0, fun q hq => ?_, by rw [List.length_set]; exact h.len, fun j c' hj => ?_, fun a b ca cb q h1 h2 o1 o2 e1 e2 => ?_⟩
  · have ne : a ≠ p := ne_of_none e (h.ow p op).1
    rw [upd_ne ne]
    exact h.base a o e
  · refine ⟨(h.ow q hq).1, ?_⟩
    by_cases z : q = p
    · subst z
      exact ⟨u, upd_same, ht⟩
    · rw [upd_ne z]
      exact (h.ow q hq).2
  · by_cases e : i = j
    · subst e
      rw [List.getElem?_set_self hi] at hj
      have e := Option.some.inj hj
      subst e
      rw [hs]
      exact hc _ upd_same hh op
    · rw [List.getElem?_set_ne e] at hj
      refine (h.cell j c' hj).to (by rw [hh]; exact Sub.refl _) fun q u' o oo ex hu => ⟨o, ?_⟩
      have nq : q ≠ p := fun z => by
        subst z
        exact e (h.dis i j ci c' q hci hj oc oo hs ex)
      rw [upd_ne nq]
      exact hu
  · have own_i : ∀ (k : Nat) (ck : Cell), (ρ.set i c)[k]? = some ck → ∃ ck', ρ[k]? = some ck' ∧ (k ≠ i → ck' = ck) := fun k ck hk => by
      by_cases e : i = k
      · subst e
        exact ⟨ci, hci, fun z => absurd rfl z⟩
      · rw [List.getElem?_set_ne e] at hk
        exact ⟨ck, hk, fun _ => rfl⟩
    obtain ⟨ca', ha, ha'⟩ := own_i a ca h1
    obtain ⟨cb', hb, hb'⟩ := own_i b cb h2
    have o1' : ca'.isOwn = true := by
      by_cases z : a = i
      · subst z
        rw [hci] at ha
        have z := Option.some.inj ha
        subst z
        exact oc
      · rw [ha' z]; exact o1
    have o2' : cb'.isOwn = true := by
      by_cases z : b = i
      · subst z
        rw [hci] at hb
        have z := Option.some.inj hb
        subst z
        exact oc
      · rw [hb' z]; exact o2
    exact h.dis a b ca' cb' q ha hb o1' o2' e1 e2
/-- what was owned is only read from now on -/
theorem Sx.freeze (h : Sx B O0 own σ H ρ) {ci : Cell} (hci : ρ[i]? = some ci) (oc : ci.isOwn = true) : ∃ own', Sx B O0 own' σ H (ρ.set i ci.view) := by
  obtain ⟨p, u, e1, op, e2⟩ := cell_ref (h.cell i ci hci) oc
  have hi : i < ρ.length := (List.getElem?_eq_some_iff.mp hci).1
  have less : Same (hide (uni O0 own) H) (hide (uni O0 (delO own p)) H) := same_less fun a ha => by
    rcases uni_or ha with q | q
    · exact uni_l q
    · exact uni_r (delO_of q).1
  have vis : hide (uni O0 (delO own p)) H p = some u := by
    rw [hide_out]
    · exact e2
    · cases q : uni O0 (delO own p) p with
      | false => rfl
      | true =>
        rcases uni_or q with q | q
        · obtain ⟨u', h1, _⟩ := h.o0 p q
          rw [(h.ow p op).1] at h1; cases h1
        · exact absurd rfl (delO_of q).2
  refine ⟨delO own p, h.base, h.o0, fun q hq => h.ow q (delO_of hq).1, by rw [List.length_set]; exact h.len, fun j c' hj => ?_, fun a b ca cb q h1 h2 o1 o2 x1 x2 => ?_⟩
  · by_cases e : i = j
    · subst e
      rw [List.getElem?_set_self hi] at hj
      have e := Option.some.inj hj
      subst e
      have q := h.cell i ci hci
      cases ci with
      | un => cases oc
      | fz d => cases oc
      | ol ds =>
        obtain ⟨p', xs, x1, x2, x3, r⟩ := q
        rw [e1] at x1
        have y : p = p' := V.ref.inj (Option.some.inj (Option.some.inj x1))
        subst y
        rw [e2] at x3
        have y := Option.some.inj x3
        subst y
        exact ⟨_, e1, .lst (.inl vis) (RpA.mono (same_sub less) _ _ r)⟩
      | ok ds =>
        obtain ⟨p', xs, x1, x2, x3, r⟩ := q
        rw [e1] at x1
        have y : p = p' := V.ref.inj (Option.some.inj (Option.some.inj x1))
        subst y
        rw [e2] at x3
        have y := Option.some.inj x3
        subst y
        exact ⟨_, e1, rp_dictK (.inl vis) (kvd_mono (same_sub less) r)⟩
      | ot ds =>
        obtain ⟨p', xs, x1, x2, x3, r⟩ := q
        rw [e1] at x1
        have y : p = p' := V.ref.inj (Option.some.inj (Option.some.inj x1))
        subst y
        rw [e2] at x3
        have y := Option.some.inj x3
        subst y
        exact ⟨_, e1, rp_dictT (.inl vis) (kvd_mono (same_sub less) r)⟩
    · rw [List.getElem?_set_ne e] at hj
      refine (h.cell j c' hj).to (same_sub less) fun q u' o oo ex hu => ⟨delO_mk o fun z => ?_, hu⟩
      subst z
      exact e (h.dis i j ci c' q hci hj oc oo e1 ex)
  · have nv : ∀ c : Cell, c.view.isOwn = false := fun c => by cases c <;> rfl
    have own_i : ∀ (k : Nat) (ck : Cell), (ρ.set i ci.view)[k]? = some ck → ck.isOwn = true → ρ[k]? = some ck := fun k ck hk ok => by
      by_cases e : i = k
      · subst e
        rw [List.getElem?_set_self hi] at hk
        have e := Option.some.inj hk
        subst e
        rw [nv] at ok; cases ok
      · rw [List.getElem?_set_ne e] at hk
        exact hk
    exact h.dis a b ca cb q (own_i a ca h1 o1) (own_i b cb h2 o2) o1 o2 x1 x2
/-- the base may be taken larger: all that is not owned -/
theorem Sx.rebase (h : Sx B O0 own σ H ρ) : Sx (hide own H) O0 own σ H ρ where
  base := fun a u e => (of_hide e).1
  o0 := fun p hp => by
    obtain ⟨u, h1, h2⟩ := h.o0 p hp
    refine ⟨u, ?_, h2⟩
    rw [hide_out]
    · exact h.base p u h1
    · cases q : own p with
      | false => rfl
      | true => rw [(h.ow p q).1] at h1; cases h1
  ow := fun p hp => ⟨hide_in hp, (h.ow p hp).2⟩
  len := h.len
  cell := h.cell
  dis := h.dis
/-- .. and smaller again -/
theorem Sx.lower {B' : Hp} (h : Sx B' O0 own σ H ρ) (s : Same B B') (o : OOk O0 B) : Sx B O0 own σ H ρ where
  base := s.trans h.base
  o0 := o
  ow := fun p hp => by
    obtain ⟨h1, h2⟩ := h.ow p hp
    refine ⟨?_, h2⟩
    cases q : B p with
    | none => rfl
    | some u => rw [s p u q] at h1; cases h1
  len := h.len
  cell := h.cell
  dis := h.dis
theorem Sx.sameB (h : Sx B O0 own σ H ρ) : Same B (hide own H) := fun a u e => by
  rw [hide_out]
  · exact h.base a u e
  · cases q : own a with
    | false => rfl
    | true => rw [(h.ow a q).1] at e; cases e
/-- what is seen over the base is seen -/
theorem hide_base {a : Addr} {u : HO} (h : Sx B O0 own σ H ρ) (e : hide O0 B a = some u) : hide (uni O0 own) H a = some u := by
  obtain ⟨h1, h2⟩ := of_hide e
  rw [hide_out]
  · exact h.base a u h1
  · cases q : uni O0 own a with
    | false => rfl
    | true =>
      rcases uni_or q with q | q
      · rw [q] at h2; cases h2
      · rw [(h.ow a q).1] at h1; cases h1
end

/-! ### readings by a pure evaluator -/
inductive Out where
  | next (ρ : EnvD)
  | ret (d : D)
  | retF (ds : List D)
def tEv (ev : EnvD → Option D) : TE := fun σ H Q => ∃ B O0 own ρ d, Sx B O0 own σ H ρ ∧ ev ρ = some d ∧ ∀ v H', Same H H' → Rp (hide (uni O0 own) H') v d → Q v H'
def tTv (ev : EnvD → Option Bool) : TT := fun σ H Q => ∃ B O0 own ρ b, Sx B O0 own σ H ρ ∧ ev ρ = some b ∧ ∀ H', Same H H' → Q b H'
def tAv (ev : EnvD → Option (List D)) : TA := fun σ H Q => ∃ B O0 own ρ ds, Sx B O0 own σ H ρ ∧ ev ρ = some ds ∧ ∀ vs H', Same H H' → RpA (hide (uni O0 own) H') vs ds → Q vs H'
/-- a new list -/
def tFv (ev : EnvD → Option (List D)) : TE := fun σ H Q => ∃ B O0 own ρ ds, Sx B O0 own σ H ρ ∧ ev ρ = some ds ∧
  ∀ p xs H', H p = none → Same H H' → H' p = some (.lst xs) → RpA (hide (addO (uni O0 own) p) H') xs ds → Q (.ref p) H'
def OwnOk (own : Own) (B H : Hp) : Prop := ∀ p, own p = true → B p = none ∧ ∃ u, H p = some u ∧ isTup u = false
/-- the walked thing yields the data ds, whatever is put to the base B -/
def Walk (J : It) (ds : List D) (O0 : Own) (B : Hp) : Prop := OOk O0 B → ∀ (i : Nat) (H : Hp) (own : Own), Same B H → OwnOk own B H →
  (∀ d, ds[i]? = some d → J.go i H ∧ ∀ x H', J.yld i H x H' → H' = H ∧ Rp (hide (uni O0 own) H) x d) ∧ (ds.length ≤ i → J.stop i H)
def tIv (ev : EnvD → Option (List D)) : TI := fun σ H R => ∃ B O0 own ρ ds, Sx B O0 own σ H ρ ∧ ev ρ = some ds ∧ ∀ J H', Same H H' → Walk J ds O0 (hide own H') → R J H'
def Post (Dn : Ends) (B : Hp) (O0 : Own) : Out → Prop
  | .next ρ' => ∀ own' σ' H', Sx B O0 own' σ' H' ρ' → Dn.nx σ' H'
  | .ret d => ∀ v H', Same B H' → Rp (hide O0 H') v d → Dn.rt v H'
  | .retF ds => ∀ p xs H', B p = none → Same B H' → H' p = some (.lst xs) → RpA (hide (addO O0 p) H') xs ds → Dn.rt (.ref p) H'
def tSv (ev : EnvD → Option Out) : TS := fun Dn σ H => ∃ B O0 own ρ out, Sx B O0 own σ H ρ ∧ ev ρ = some out ∧ Post Dn B O0 out

theorem PE.by {X : Cx} {e : Expr} {t t' : TE} (h : PE X e t) (i : ∀ σ H Q, t' σ H Q → t σ H Q) : PE X e t' := ⟨fun pins s σ H Q I q => h.run pins s σ H Q I (i σ H Q q)⟩
theorem PT.by {X : Cx} {e : Expr} {t t' : TT} (h : PT X e t) (i : ∀ σ H Q, t' σ H Q → t σ H Q) : PT X e t' := ⟨fun pins s σ H Q I q => h.run pins s σ H Q I (i σ H Q q)⟩
theorem PW.by {X : Cx} {e : Expr} {t t' : TT} (h : PW X e t) (i : ∀ σ H Q, t' σ H Q → t σ H Q) : PW X e t' := ⟨fun wh pins s σ H Q I q => h.run wh pins s σ H Q I (i σ H Q q)⟩
theorem PA.by {X : Cx} {es : List Expr} {t t' : TA} (h : PA X es t) (i : ∀ σ H Q, t' σ H Q → t σ H Q) : PA X es t' := ⟨fun pos pins s σ H Q I q => h.run pos pins s σ H Q I (i σ H Q q)⟩
theorem PS.by {X : Cx} {e : Stmt} {t t' : TS} (h : PS X e t) (i : ∀ Dn σ H, t' Dn σ H → t Dn σ H) : PS X e t' := ⟨fun pins s σ H Dn I q => h.run pins s σ H Dn I (i Dn σ H q)⟩
theorem PSs.by {X : Cx} {e : List Stmt} {t t' : TS} (h : PSs X e t) (i : ∀ Dn σ H, t' Dn σ H → t Dn σ H) : PSs X e t' := ⟨fun pins s σ H Dn I q => h.run pins s σ H Dn I (i Dn σ H q)⟩
theorem PI.by {X : Cx} {tg e : Expr} {t t' : TI} (h : PI X tg e t) (i : ∀ σ H R, t' σ H R → t σ H R) : PI X tg e t' := ⟨fun pins s σ H R I q => h.run pins s σ H R I (i σ H R q)⟩
theorem PG.by {X : Cx} {e : Expr} {t t' : TG} (h : PG X e t) (i : ∀ v σ H Q, t' v σ H Q → t v σ H Q) : PG X e t' := ⟨fun pins s σ H x u Q I r q => h.run pins s σ H x u Q I r (i x σ H Q q)⟩
end Fv

set_option Elab.async false
set_option linter.all false
set_option maxRecDepth 100000
set_option autoImplicit false
/-! FvC: operations by values: the pure functions over data, and their rules. -/
namespace Fv
open PySem L2

/-! ### rules by pure functions -/
def rD (g : D → D → Option D) : R2 := fun x y H Q => ∃ O dx dy d, OOk O H ∧ Rp (hide O H) x dx ∧ Rp (hide O H) y dy ∧ g dx dy = some d ∧ ∀ v H', Same H H' → Rp (hide O H') v d → Q v H'
def rDF (g : D → D → Option (List D)) : R2 := fun x y H Q => ∃ O dx dy ds, OOk O H ∧ Rp (hide O H) x dx ∧ Rp (hide O H) y dy ∧ g dx dy = some ds ∧
  ∀ p xs H', H p = none → Same H H' → H' p = some (.lst xs) → RpA (hide (addO O p) H') xs ds → Q (.ref p) H'
def rU1 (g : D → Option D) : V → Hp → VK → Prop := fun x H Q => ∃ O dx d, OOk O H ∧ Rp (hide O H) x dx ∧ g dx = some d ∧ ∀ v H', Same H H' → Rp (hide O H') v d → Q v H'
def rL (g : List D → Option D) : List V → Hp → VK → Prop := fun vs H Q => ∃ O ds d, OOk O H ∧ RpA (hide O H) vs ds ∧ g ds = some d ∧ ∀ v H', Same H H' → Rp (hide O H') v d → Q v H'
def rLF (g : List D → Option (List D)) : List V → Hp → VK → Prop := fun vs H Q => ∃ O ds es, OOk O H ∧ RpA (hide O H) vs ds ∧ g ds = some es ∧
  ∀ p xs H', H p = none → Same H H' → H' p = some (.lst xs) → RpA (hide (addO O p) H') xs es → Q (.ref p) H'
theorem opBy {X : Cx} {f : Value → Value → Sem Value} {r r' : R2} (h : OpR X f r) (i : ∀ x y H Q, r' x y H Q → r x y H Q) : OpR X f r' := fun pins s σ H x y v u Q I rx ry q => h pins s σ H x y v u Q I rx ry (i x y H Q q)
theorem unBy {X : Cx} {f : Value → Sem Value} {r r' : V → Hp → VK → Prop} (h : UnR X f r) (i : ∀ x H Q, r' x H Q → r x H Q) : UnR X f r' := fun pins s σ H x v Q I rx q => h pins s σ H x v Q I rx (i x H Q q)
theorem callBy {X : Cx} {f : Value} {r r' : List V → Hp → VK → Prop} (h : CallR X f r) (i : ∀ x H Q, r' x H Q → r x H Q) : CallR X f r' := fun pins s σ H x v Q I rx q => h pins s σ H x v Q I rx (i x H Q q)

/-- a new list of seen things -/
theorem seenNew {O : Own} {H : Hp} {p : Addr} {xs : List V} {ds : List D} (ok : OOk O H) (n : H p = none) (r : RpA (hide O H) xs ds) : Rp (hide O (upd H p (.lst xs))) (.ref p) (.list ds) :=
  .lst (.inl (hide_new ok n)) (r.up (same_new n))
theorem seenTup {O : Own} {H : Hp} {p : Addr} {xs : List V} {ds : List D} (ok : OOk O H) (n : H p = none) (r : RpA (hide O H) xs ds) : Rp (hide O (upd H p (.tup xs))) (.ref p) (.tuple ds) :=
  .tup (hide_new ok n) (r.up (same_new n))
theorem seenF {O : Own} {H : Hp} {p : Addr} {o : HO} {xs : List V} {ds : List D} (n : H p = none) (r : RpA (hide O H) xs ds) : RpA (hide (addO O p) (upd H p o)) xs ds :=
  RpA.mono (same_sub (same_fresh (same_new n) n)) _ _ r
theorem rd_of {O : Own} {H : Hp} {a : Addr} {u : HO} (h : Rd (hide O H) a u) : Rd H a u := by
  rcases h with h | ⟨o, h⟩
  · exact .inl (of_hide h).1
  · exact .inr ⟨o, (of_hide h).1⟩

theorem ite_some {c : Prop} [Decidable c] {α : Type} {a k : α} (h : (if c then some a else none) = some k) : c ∧ a = k := by
  by_cases q : c
  · rw [if_pos q] at h; exact ⟨q, Option.some.inj h⟩
  · rw [if_neg q] at h; cases h
theorem map_some' {α β : Type} {f : α → β} {o : Option α} {k : β} (h : o.map f = some k) : ∃ a, o = some a ∧ f a = k := by
  cases o with
  | none => cases h
  | some a => exact ⟨a, rfl, Option.some.inj h⟩
/-! ### ints -/
inductive Bop where
  | add | sub | mul | fdiv | mod | pow | shl | shr | band
def bopI : Bop → Int → Int → Option Int
  | .add, i, j => some (i + j)
  | .sub, i, j => some (i - j)
  | .mul, i, j => if i.natAbs.log2 + j.natAbs.log2 < 1000000 then some (i * j) else none
  | .fdiv, i, j => if 0 < j ∧ j.natAbs.log2 < 9000 then some (i / j) else none
  | .mod, i, j => if 0 < j then some (i % j) else none
  | .pow, i, j => if 0 ≤ j ∧ j ≤ 1000000 ∧ i.natAbs < 2 ^ 64 then some (i ^ j.toNat) else none
  | .shl, i, j => if 0 ≤ j ∧ j ≤ 1000000 ∧ i.natAbs < 2 ^ 64 then some (i * 2 ^ j.toNat) else none
  | .shr, i, j => if 0 ≤ j then some (i / 2 ^ j.toNat) else none
  | .band, i, j => some (Builtin.bitAnd i j)
def intsD (op : Bop) : D → D → Option D
  | .int i, .int j => (bopI op i j).map .int
  | _, _ => none
def catTD : D → D → Option D
  | .tuple xs, .tuple ys => if xs.length + ys.length ≤ sizeLine then some (.tuple (xs ++ ys)) else none
  | _, _ => none
/-- lists: what is made new -/
def bopF : Bop → D → D → Option (List D)
  | .add, .list xs, .list ys => if xs.length + ys.length ≤ sizeLine then some (xs ++ ys) else none
  | _, _, _ => none
def bopD : Bop → D → D → Option D
  | op, .int i, .int j => (bopI op i j).map .int
  | .add, .tuple xs, .tuple ys => if xs.length + ys.length ≤ sizeLine then some (.tuple (xs ++ ys)) else none
  | op, x, y => (bopF op x y).map .list
def Bop.py : Bop → Operator
  | .add => .Add | .sub => .Sub | .mul => .Mult | .fdiv => .FloorDiv | .mod => .Mod | .pow => .Pow | .shl => .LShift | .shr => .RShift | .band => .BitAnd
section
variable {X : Cx}
theorem bop_int (op : Bop) : OpR X (binaryOp op.py) (fun x y H Q => ∃ i j k, x = .int i ∧ y = .int j ∧ bopI op i j = some k ∧ Q (.int k) H) := by
  cases op with
  | add => exact opBy op_add fun x y H Q ⟨i, j, k, ex, ey, e, q⟩ => ⟨i, j, ex, ey, by cases e; exact q⟩
  | sub => exact opBy op_sub fun x y H Q ⟨i, j, k, ex, ey, e, q⟩ => ⟨i, j, ex, ey, by cases e; exact q⟩
  | mul => exact opBy op_mulW fun x y H Q ⟨i, j, k, ex, ey, e, q⟩ => ⟨i, j, ex, ey, (ite_some e).1, by
    have z := (ite_some e).2
    subst z
    exact q⟩
  | fdiv => exact opBy op_fdivW fun x y H Q ⟨i, j, k, ex, ey, e, q⟩ => ⟨i, j, ex, ey, (ite_some e).1, by
    have z := (ite_some e).2
    subst z
    exact q⟩
  | mod => exact opBy op_mod fun x y H Q ⟨i, j, k, ex, ey, e, q⟩ => ⟨i, j, ex, ey, (ite_some e).1, by
    have z := (ite_some e).2
    subst z
    exact q⟩
  | pow => exact opBy op_pow fun x y H Q ⟨i, j, k, ex, ey, e, q⟩ => ⟨i, j, ex, ey, (ite_some e).1, by
    have z := (ite_some e).2
    subst z
    exact q⟩
  | shl => exact opBy op_shl fun x y H Q ⟨i, j, k, ex, ey, e, q⟩ => ⟨i, j, ex, ey, (ite_some e).1, by
    have z := (ite_some e).2
    subst z
    exact q⟩
  | shr => exact opBy op_shr fun x y H Q ⟨i, j, k, ex, ey, e, q⟩ => ⟨i, j, ex, ey, (ite_some e).1, by
    have z := (ite_some e).2
    subst z
    exact q⟩
  | band => exact opBy op_and fun x y H Q ⟨i, j, k, ex, ey, e, q⟩ => ⟨i, j, ex, ey, by cases e; exact q⟩

/-- a list that is read, as it lies -/
theorem lstR {pins : List (Addr × Obj)} {σ : L2.St} {H : Hp} {s : Shared} {l : Addr} {xs : List V} (I : Inv X pins σ H s) (h : Rd H l (.lst xs)) :
    ∃ (its : List Value) (n : Nat), Vals xs its ∧ xs.length = its.length ∧ s.heap.get? l = some { cls := .type "list", data := .seq its.toArray n } := by
  have ok : ObjOk X.prog X.w H s.heap l (.lst xs) := h.ok I.hok
  obtain ⟨_, its, n, r, e⟩ := ok
  exact ⟨its, n, r, r.length, e⟩
theorem catR : OpR X (binaryOp .Add) (fun x y H Q => ∃ l b xs zs, x = .ref l ∧ y = .ref b ∧ Rd H l (.lst xs) ∧ Rd H b (.lst zs) ∧ xs.length + zs.length ≤ sizeLine ∧ ∀ p, H p = none → Q (.ref p) (upd H p (.lst (xs ++ zs)))) := by
  rintro pins s σ H x y v u Q I rx ry ⟨l, b, xs, zs, rfl, rfl, h1, h2, size, q⟩
  cases rx; cases ry
  obtain ⟨i1, n1, r1, l1, e1⟩ := lstR I h1
  obtain ⟨i2, n2, r2, l2, e2⟩ := lstR I h2
  have both : i1.toArray ++ i2.toArray = (i1 ++ i2).toArray := List.append_toArray _ _
  refine PySem.P.add_list e1 e2 ?_ (by simp only [List.size_toArray]; omega)
  rw [both]
  have size' : (xs ++ zs).length ≤ sizeLine := by simp only [List.length_append]; exact size
  exact ⟨.ref s.heap.objs.size, _, I.lnew (t' := s.toks) (r1.append r2) size', rfl, q _ I.fresh⟩
theorem repR : OpR X (binaryOp .Mult) (fun x y H Q => ∃ l k xs, x = .ref l ∧ y = .int k ∧ H l = some (.lst xs) ∧ (-(2 ^ 63) ≤ k ∧ k < 2 ^ 63 ∧ xs.length * k.toNat ≤ sizeLine) ∧ ∀ p, H p = none → Q (.ref p) (upd H p (.lst (List.replicate k.toNat xs).flatten))) :=
  opBy op_rep fun x y H Q ⟨l, k, xs, ex, ey, h, ⟨c1, c2, c3⟩, q⟩ => ⟨l, k, xs, ex, ey, h, c1, c2, c3, q⟩
/-- list + list, seen -/
theorem catD : OpR X (binaryOp .Add) (rDF (bopF .add)) := opBy catR fun x y H Q ⟨O, dx, dy, ds, ok, rx, ry, e, q⟩ => by
  unfold bopF at e
  split at e <;> first
    | cases e
    | skip
  · split at e
    · rename_i hz
      cases e
      cases rx with
      | lst h1 r1 =>
        cases ry with
        | lst h2 r2 =>
          refine ⟨_, _, _, _, rfl, rfl, rd_of h1, rd_of h2, by rw [pair_len r1, pair_len r2]; exact hz, fun p n => q p _ _ n (same_new n) upd_same (seenF n (pair_app r1 r2))⟩
    · cases e
theorem catT : OpR X (binaryOp .Add) (rD catTD) :=
  opBy op_catA fun x y H Q ⟨O, dx, dy, d, ok, rx, ry, e, q⟩ => by
    unfold catTD at e
    split at e
    · split at e
      · rename_i hz
        cases e
        cases rx with
        | tup h1 r1 =>
          cases ry with
          | tup h2 r2 =>
            refine ⟨_, _, _, _, rfl, rfl, .of (of_hide h1).1, .of (of_hide h2).1, by rw [pair_len r1, pair_len r2]; exact hz, fun e => ?_, fun _ e => ?_, fun _ _ p n => ?_⟩
            · subst e
              cases r1
              exact q _ _ (Same.refl _) (.tup h2 r2)
            · subst e
              cases r2
              refine q _ _ (Same.refl _) (.tup h1 ?_)
              rw [List.append_nil]
              exact r1
            · exact q _ _ (same_new n) (seenTup ok n (pair_app r1 r2))
      · cases e
    · cases e
theorem ints_ok (op : Bop) : OpR X (binaryOp op.py) (rD (intsD op)) := opBy (bop_int op) fun x y H Q ⟨O, dx, dy, d, ok, rx, ry, e, q⟩ => by
  unfold intsD at e
  split at e
  · obtain ⟨k, hk, z⟩ := map_some' e
    subst z
    cases rx; cases ry
    exact ⟨_, _, k, rfl, rfl, hk, q _ _ (Same.refl _) (.int k)⟩
  · cases e
/-- any binary operator -/
theorem bop_ok (op : Bop) : OpR X (binaryOp op.py) (rD (bopD op)) := by
  have hI := ints_ok (X := X) op
  cases op with
  | add =>
    refine opBy (hI.or (catT.or catD)) fun x y H Q ⟨O, dx, dy, d, ok, rx, ry, e, q⟩ => ?_
    by_cases c1 : ∃ i j, dx = .int i ∧ dy = .int j
    · obtain ⟨i, j, e1, e2⟩ := c1
      subst e1 e2
      exact .inl ⟨O, _, _, d, ok, rx, ry, e, q⟩
    · by_cases c2 : ∃ i j, dx = .tuple i ∧ dy = .tuple j
      · obtain ⟨i, j, e1, e2⟩ := c2
        subst e1 e2
        exact .inr (.inl ⟨O, _, _, d, ok, rx, ry, e, q⟩)
      · refine .inr (.inr ?_)
        have e' : (bopF .add dx dy).map .list = some d := by
          rw [← e]
          unfold bopD
          split
          · exact absurd ⟨_, _, rfl, rfl⟩ c1
          · exact absurd ⟨_, _, rfl, rfl⟩ c2
          · rfl
        obtain ⟨ds, hk, z⟩ := map_some' e'
        subst z
        refine ⟨O, dx, dy, ds, ok, rx, ry, hk, fun p xs H' n s hp r => q _ _ s (.lst (.inl ?_) (RpA.mono (same_sub (same_less fun a ha => addO_l ha)) _ _ r))⟩
        rw [hide_out (ok.new n)]
        exact hp
  | mul | sub | fdiv | mod | pow | shl | shr | band =>
    refine opBy hI fun x y H Q ⟨O, dx, dy, d, ok, rx, ry, e, q⟩ => ⟨O, dx, dy, d, ok, rx, ry, ?_, q⟩
    rw [← e]
    cases dx <;> cases dy <;> rfl
/-- -x -/
def negD : D → Option D
  | .int i => some (.int (-i))
  | _ => none
theorem neg_ok : UnR X (unaryOp .USub) (rU1 negD) := unBy un_neg fun x H Q ⟨O, dx, d, ok, rx, e, q⟩ => by
  unfold negD at e
  split at e
  · have z := Option.some.inj e
    subst z
    cases rx
    exact ⟨_, rfl, q _ _ (Same.refl _) (.int _)⟩
  · cases e
end

/-! ### comparisons -/
inductive Cop where
  | eq | ne | lt | le | gt | ge
  deriving DecidableEq
def copI : Cop → Int → Int → Bool
  | .eq, i, j => decide (i = j) | .ne, i, j => !decide (i = j) | .lt, i, j => decide (i < j) | .le, i, j => decide (i ≤ j) | .gt, i, j => decide (j < i) | .ge, i, j => decide (j ≤ i)
def Cop.py : Cop → CmpOp
  | .eq => .Eq | .ne => .NotEq | .lt => .Lt | .le => .LtE | .gt => .Gt | .ge => .GtE
def ordD (op : Cop) : D → D → Option Bool
  | .int i, .int j => some (copI op i j)
  | _, _ => none
def copD (op : Cop) (x y : D) : Option Bool :=
  match op with
  | .eq => if (SeqAt.shaped x && SeqAt.shaped y) = true then some (PyData.eqv x y) else none
  | .ne => if (SeqAt.shaped x && SeqAt.shaped y) = true then some (!PyData.eqv x y) else none
  | op => ordD op x y
section
variable {X : Cx}
theorem ord_ok {o : Cop} {r : CmpOp} {p : Int → Int → Bool} (hp : ∀ i j, p i j = copI o i j) (h : OpR X (compareOp r) (rI0 fun i j => .bl (p i j))) : OpR X (compareOp r) (rD fun x y => (ordD o x y).map .bool) :=
  opBy h fun x y H Q ⟨O, dx, dy, d, ok, rx, ry, e, q⟩ => by
    obtain ⟨b, hb, z⟩ := map_some' e
    subst z
    unfold ordD at hb
    split at hb
    · have z := Option.some.inj hb
      subst z
      cases rx; cases ry
      refine ⟨_, _, rfl, rfl, ?_⟩
      have qq := q _ _ (Same.refl _) (.bl _)
      rw [← hp] at qq
      exact qq
    · cases hb
theorem cop_ok (op : Cop) (hu : X.A.units + 64 < cLine) : OpR X (compareOp op.py) (rD fun x y => (copD op x y).map .bool) := by
  have hcan : ∀ {d : D}, SeqAt.shaped d = true → d.canLay0 = true := fun h => SeqAt.canLay_of_shaped h
  cases op with
  | eq =>
    refine opBy (op_eqD hu) fun x y H Q ⟨O, dx, dy, d, ok, rx, ry, e, q⟩ => ?_
    obtain ⟨b, hb, z⟩ := map_some' e
    subst z
    obtain ⟨hs, z⟩ := ite_some hb
    subst z
    have hs' := Bool.and_eq_true_iff.mp hs
    have sb : Sub (hide O H) H := same_sub fun a o h => (of_hide h).1
    exact ⟨dx, dy, Rp.dp sb _ _ rx (hcan hs'.1), Rp.dp sb _ _ ry (hcan hs'.2), hs'.1, hs'.2, q _ _ (Same.refl _) (.bl _)⟩
  | ne =>
    refine opBy (op_neD hu) fun x y H Q ⟨O, dx, dy, d, ok, rx, ry, e, q⟩ => ?_
    obtain ⟨b, hb, z⟩ := map_some' e
    subst z
    obtain ⟨hs, z⟩ := ite_some hb
    subst z
    have hs' := Bool.and_eq_true_iff.mp hs
    have sb : Sub (hide O H) H := same_sub fun a o h => (of_hide h).1
    exact ⟨dx, dy, Rp.dp sb _ _ rx (hcan hs'.1), Rp.dp sb _ _ ry (hcan hs'.2), hs'.1, hs'.2, q _ _ (Same.refl _) (.bl _)⟩
  | lt => exact ord_ok (fun _ _ => rfl) op_lt
  | le => exact ord_ok (fun _ _ => rfl) op_le
  | gt => exact ord_ok (fun _ _ => rfl) op_gt
  | ge => exact ord_ok (fun _ _ => rfl) op_ge
/-- x in xs, of a list or a tuple -/
def inD (neg : Bool) (x c : D) : Option Bool :=
  match c with
  | .list xs => if (SeqAt.shaped (.list xs) && SeqAt.shaped x) = true then some (xor neg (xs.any fun y => PyData.eqv y x)) else none
  | .tuple xs => if (SeqAt.shaped (.tuple xs) && SeqAt.shaped x) = true then some (xor neg (xs.any fun y => PyData.eqv y x)) else none
  | _ => none
theorem depthIn {xs : List D} {A : Around} {d : D} (hd : SeqAt.shaped d = true) (hu : A.units + 65 < cLine) : A.units + 1 + min (PyData.depthAll xs) d.depth < cLine := by
  have q := SeqAt.depth_of_shaped hd
  omega
theorem in_ok (neg : Bool) (hu : X.A.units + 65 < cLine) : OpR X (compareOp (if neg then .NotIn else .In)) (rD fun x c => (inD neg x c).map .bool) := by
  rintro pins s σ H x y v u Q I rx ry ⟨O, dx, dy, d, ok, px, py, e, q⟩
  have sb : Sub (hide O H) H := same_sub fun a o h => (of_hide h).1
  obtain ⟨b, hb, z⟩ := map_some' e
  subst z
  unfold inD at hb
  split at hb
  · rename_i xs
    obtain ⟨hs, z⟩ := ite_some hb
    subst z
    obtain ⟨h1, h2⟩ := Bool.and_eq_true_iff.mp hs
    have c1 := SeqAt.canLay_of_shaped h1
    have c2 := SeqAt.canLay_of_shaped h2
    obtain ⟨as, ra⟩ := Dp.reads I _ _ _ (Rp.dp sb _ _ px c2) rx
    obtain ⟨bs, rb⟩ := Dp.reads I _ _ _ (Rp.dp sb _ _ py c1) ry
    have cc : PyData.canLayAll0 xs = true := by simpa [PyData.canLay0] using c1
    cases neg with
    | false => exact SeqAt.in_list_reads rb ra cc c2 (depthIn h2 hu) ⟨.bl _, H, I, rfl, q _ H (Same.refl _) (by simpa using Rp.bl _)⟩
    | true => exact SeqAt.notIn_list_reads rb ra cc c2 (depthIn h2 hu) ⟨.bl _, H, I, rfl, q _ H (Same.refl _) (by simpa using Rp.bl _)⟩
  · rename_i xs
    obtain ⟨hs, z⟩ := ite_some hb
    subst z
    obtain ⟨h1, h2⟩ := Bool.and_eq_true_iff.mp hs
    have c1 := SeqAt.canLay_of_shaped h1
    have c2 := SeqAt.canLay_of_shaped h2
    obtain ⟨as, ra⟩ := Dp.reads I _ _ _ (Rp.dp sb _ _ px c2) rx
    obtain ⟨bs, rb⟩ := Dp.reads I _ _ _ (Rp.dp sb _ _ py c1) ry
    have cc : PyData.canLayAll0 xs = true := by simpa [PyData.canLay0] using c1
    cases neg with
    | false => exact SeqAt.in_tuple_reads rb ra cc c2 (depthIn h2 hu) ⟨.bl _, H, I, rfl, q _ H (Same.refl _) (by simpa using Rp.bl _)⟩
    | true => exact SeqAt.notIn_tuple_reads rb ra cc c2 (depthIn h2 hu) ⟨.bl _, H, I, rfl, q _ H (Same.refl _) (by simpa using Rp.bl _)⟩
  · cases hb
end
end Fv

set_option Elab.async false
set_option linter.all false
set_option maxRecDepth 100000
set_option autoImplicit false
/-! FvC2: subscripts, slices, built-in calls by values. -/
namespace Fv
open PySem L2

theorem at_pair {H : Hp} {xs : List V} {ds : List D} {i : Int} {d : D} (r : RpA H xs ds) (h : atI ds i = some d) : ∃ v, atI xs i = some v ∧ Rp H v d := by
  unfold atI at h ⊢
  rw [pair_len r]
  cases q : ixN ds.length i with
  | none => rw [q] at h; cases h
  | some j =>
    rw [q] at h
    obtain ⟨v, h1, h2⟩ := pair_get r (show ds[j]? = some d from h)
    exact ⟨v, h1, h2⟩
/-- xs[i] -/
def ixD : D → D → Option D
  | .list xs, .int i => atI xs i
  | .tuple xs, .int i => atI xs i
  | _, _ => none
section
variable {X : Cx}
theorem ix_ok : IxR X (rD ixD) := by
  intro value slice pins s σ H x y v u Q I rx ry h hs
  obtain ⟨O, dx, dy, d, ok, px, py, e, q⟩ := h
  unfold ixD at e
  split at e
  · cases py
    cases px with
    | lst h1 r1 =>
      obtain ⟨z, h2, h3⟩ := at_pair r1 e
      exact ix_list (X := X) value slice pins s σ H _ _ v u Q I rx ry ⟨_, _, _, _, rfl, rfl, .inl (rd_of h1), h2, q _ _ (Same.refl _) h3⟩ hs
  · cases py
    cases px with
    | tup h1 r1 =>
      obtain ⟨z, h2, h3⟩ := at_pair r1 e
      exact ix_tup (X := X) value slice pins s σ H _ _ v u Q I rx ry ⟨_, _, _, _, rfl, rfl, .of (of_hide h1).1, h2, q _ _ (Same.refl _) h3⟩ hs
  · cases e
/-- xs[a:b] -/
def cutD (xs : List D) (lo hi : Option Int) : List D := (xs.drop (HT.sIx xs.length 0 lo)).take (HT.sIx xs.length xs.length hi - HT.sIx xs.length 0 lo)
theorem cut_pair {H : Hp} {xs : List V} {ds : List D} (r : RpA H xs ds) (lo hi : Option Int) : RpA H (cutV xs lo hi) (cutD ds lo hi) := by
  unfold cutV cutD
  rw [pair_len r]
  exact pair_take _ (pair_drop _ r)
def slF (x : D) (lo hi : Option Int) : Option (List D) :=
  match x with
  | .list xs => some (cutD xs lo hi)
  | _ => none
def slT (x : D) (lo hi : Option Int) : Option D :=
  match x with
  | .tuple xs => some (.tuple (cutD xs lo hi))
  | _ => none
def rSlF (g : D → Option Int → Option Int → Option (List D)) : V → Option Int → Option Int → Hp → VK → Prop := fun x lo hi H Q => ∃ O dx ds, OOk O H ∧ Rp (hide O H) x dx ∧ g dx lo hi = some ds ∧
  ∀ p xs H', H p = none → Same H H' → H' p = some (.lst xs) → RpA (hide (addO O p) H') xs ds → Q (.ref p) H'
def rSlD (g : D → Option Int → Option Int → Option D) : V → Option Int → Option Int → Hp → VK → Prop := fun x lo hi H Q => ∃ O dx d, OOk O H ∧ Rp (hide O H) x dx ∧ g dx lo hi = some d ∧
  ∀ v H', Same H H' → Rp (hide O H') v d → Q v H'
theorem slF_ok : SlR X (rSlF slF) := by
  intro pins s σ H x v vl vu lo hi sl Q I rx hs pl pu h
  obtain ⟨O, dx, ds, ok, px, e, q⟩ := h
  unfold slF at e
  split at e
  · have z := Option.some.inj e
    subst z
    cases px with
    | lst h1 r1 => exact sl_list (X := X) pins s σ H _ v vl vu lo hi sl Q I rx hs pl pu ⟨_, _, rfl, .inl (rd_of h1), fun p n => q p _ _ n (same_new n) upd_same (seenF n (cut_pair r1 lo hi))⟩
  · cases e
theorem slT_ok : SlR X (rSlD slT) := by
  intro pins s σ H x v vl vu lo hi sl Q I rx hs pl pu h
  obtain ⟨O, dx, d, ok, px, e, q⟩ := h
  unfold slT at e
  split at e
  · rename_i ts
    have z := Option.some.inj e
    subst z
    cases px with
    | tup h1 r1 =>
      rename_i a xs
      refine sl_tupA (X := X) pins s σ H _ v vl vu lo hi sl Q I rx hs pl pu ⟨_, _, rfl, .of (of_hide h1).1, fun w => ?_, fun _ p n => q _ _ (same_new n) (seenTup ok n (cut_pair r1 lo hi))⟩
      refine q _ _ (Same.refl _) (.tup h1 ?_)
      have c := cut_pair r1 lo hi
      have e : cutV xs lo hi = xs := by
        unfold cutV
        rw [w.1, w.2, List.drop_zero, Nat.sub_zero, List.take_length]
      rw [e] at c
      exact c
  · cases e
end

/-! ### built-in calls -/
/-- all ints -/
def intsOf : List D → Option (List Int)
  | [] => some []
  | .int i :: r => (intsOf r).map (i :: ·)
  | _ :: _ => none
theorem intsOf_eq : ∀ {ds : List D} {ns : List Int}, intsOf ds = some ns → ds = ns.map .int
  | [], ns, h => by cases h; rfl
  | .int i :: r, ns, h => by
    obtain ⟨ms, h1, h2⟩ := map_some' (show (intsOf r).map (i :: ·) = some ns from h)
    subst h2
    rw [intsOf_eq h1]
    rfl
theorem intsOf_map : ∀ ns : List Int, intsOf (ns.map .int) = some ns
  | [] => rfl
  | n :: r => by
    show (intsOf (r.map .int)).map (n :: ·) = _
    rw [intsOf_map r]
    rfl
def maxI : List Int → Int
  | [] => 0
  | x :: xs => xs.foldl max x
def minI : List Int → Int
  | [] => 0
  | x :: xs => xs.foldl min x
theorem foldl_max_spec : ∀ (xs : List Int) (x : Int), (xs.foldl max x = x ∨ xs.foldl max x ∈ xs) ∧ x ≤ xs.foldl max x ∧ ∀ y ∈ xs, y ≤ xs.foldl max x
  | [], x => ⟨.inl rfl, Int.le_refl x, fun _ h => nomatch h⟩
  | z :: xs, x => by
    obtain ⟨h1, h2, h3⟩ := foldl_max_spec xs (max x z)
    refine ⟨?_, ?_, ?_⟩
    · rw [List.foldl_cons]
      rcases h1 with h1 | h1
      · rw [h1]
        by_cases c : x ≤ z
        · right; rw [Int.max_eq_right c]; exact List.mem_cons_self
        · left; rw [Int.max_eq_left (by omega)]
      · right; exact List.mem_cons_of_mem _ h1
    · rw [List.foldl_cons]
      have : x ≤ max x z := Int.le_max_left _ _
      omega
    · intro y hy
      rw [List.foldl_cons]
      rcases List.mem_cons.mp hy with rfl | hy
      · have : y ≤ max x y := Int.le_max_right _ _
        omega
      · exact h3 y hy
theorem foldl_min_spec : ∀ (xs : List Int) (x : Int), (xs.foldl min x = x ∨ xs.foldl min x ∈ xs) ∧ xs.foldl min x ≤ x ∧ ∀ y ∈ xs, xs.foldl min x ≤ y
  | [], x => ⟨.inl rfl, Int.le_refl x, fun _ h => nomatch h⟩
  | z :: xs, x => by
    obtain ⟨h1, h2, h3⟩ := foldl_min_spec xs (min x z)
    refine ⟨?_, ?_, ?_⟩
    · rw [List.foldl_cons]
      rcases h1 with h1 | h1
      · rw [h1]
        by_cases c : x ≤ z
        · left; rw [Int.min_eq_left c]
        · right; rw [Int.min_eq_right (by omega)]; exact List.mem_cons_self
      · right; exact List.mem_cons_of_mem _ h1
    · rw [List.foldl_cons]
      have : min x z ≤ x := Int.min_le_left _ _
      omega
    · intro y hy
      rw [List.foldl_cons]
      rcases List.mem_cons.mp hy with rfl | hy
      · have : min x y ≤ y := Int.min_le_right _ _
        omega
      · exact h3 y hy
theorem maxI_spec {xs : List Int} (h : xs ≠ []) : maxI xs ∈ xs ∧ ∀ y ∈ xs, y ≤ maxI xs := by
  cases xs with
  | nil => exact absurd rfl h
  | cons x xs =>
    obtain ⟨h1, h2, h3⟩ := foldl_max_spec xs x
    refine ⟨?_, fun y hy => ?_⟩
    · rcases h1 with h1 | h1
      · exact List.mem_cons.mpr (.inl h1)
      · exact List.mem_cons_of_mem _ h1
    · rcases List.mem_cons.mp hy with rfl | hy
      · exact h2
      · exact h3 y hy
theorem minI_spec {xs : List Int} (h : xs ≠ []) : minI xs ∈ xs ∧ ∀ y ∈ xs, minI xs ≤ y := by
  cases xs with
  | nil => exact absurd rfl h
  | cons x xs =>
    obtain ⟨h1, h2, h3⟩ := foldl_min_spec xs x
    refine ⟨?_, fun y hy => ?_⟩
    · rcases h1 with h1 | h1
      · exact List.mem_cons.mpr (.inl h1)
      · exact List.mem_cons_of_mem _ h1
    · rcases List.mem_cons.mp hy with rfl | hy
      · exact h2
      · exact h3 y hy

/-- built-in functions -/
inductive Bfn where
  | len | max | min | sum | abs
def Bfn.py : Bfn → Str
  | .len => "len" | .max => "max" | .min => "min" | .sum => "sum" | .abs => "abs"
def Bfn.id : Bfn → String
  | .len => "len" | .max => "max" | .min => "min" | .sum => "sum" | .abs => "abs"
def bfnD : Bfn → List D → Option D
  | .len, [.list xs] => some (.int xs.length)
  | .len, [.tuple xs] => some (.int xs.length)
  | .max, [.int i, .int j] => some (.int (max i j))
  | .min, [.int i, .int j] => some (.int (min i j))
  | .max, [.list xs] => if xs.isEmpty = true then none else (intsOf xs).map fun ns => .int (maxI ns)
  | .min, [.list xs] => if xs.isEmpty = true then none else (intsOf xs).map fun ns => .int (minI ns)
  | .sum, [.list xs] => (intsOf xs).map fun ns => .int ns.sum
  | .abs, [.int i] => some (.int i.natAbs)
  | _, _ => none
section
variable {X : Cx}
theorem pair1 {H : Hp} {vs : List V} {d : D} (r : RpA H vs [d]) : ∃ v, vs = [v] ∧ Rp H v d := by
  cases r with
  | cons a t => cases t; exact ⟨_, rfl, a⟩
theorem pair2 {H : Hp} {vs : List V} {d e : D} (r : RpA H vs [d, e]) : ∃ v u, vs = [v, u] ∧ Rp H v d ∧ Rp H u e := by
  cases r with
  | cons a t =>
    obtain ⟨u, e1, e2⟩ := pair1 t
    subst e1
    exact ⟨_, _, rfl, a, e2⟩
theorem intsOf_rp {O : Own} {H : Hp} {xs : List V} {ds : List D} {ns : List Int} (e : intsOf ds = some ns) (r : RpA (hide O H) xs ds) : xs = ns.map V.int := by
  rw [intsOf_eq e] at r
  exact rp_ints r
theorem isEmpty_ne {ds : List D} {ns : List Int} (e : intsOf ds = some ns) (h : ¬ ds.isEmpty = true) : ns ≠ [] := by
  intro z
  subst z
  rw [intsOf_eq e] at h
  exact h rfl
theorem max_eq (i j : Int) : (if j > i then j else i) = max i j := by rw [Int.max_def]; split <;> split <;> omega
theorem min_eq (i j : Int) : (if j < i then j else i) = min i j := by rw [Int.min_def]; split <;> split <;> omega
theorem abs_eq (i : Int) : (if i < 0 then -i else i) = (i.natAbs : Int) := by split <;> omega
theorem guard_e {c : Prop} [Decidable c] {α : Type} {o : Option α} {k : α} (h : (if c then none else o) = some k) : ¬ c ∧ o = some k := by
  by_cases q : c
  · rw [if_pos q] at h; cases h
  · rw [if_neg q] at h; exact ⟨q, h⟩
theorem bfn_ok (f : Bfn) (hc : X.calm = true) : CallR X (.builtin f.id) (rL (bfnD f)) := by
  cases f with
  | len =>
    refine callBy call_len_seq fun vs H Q ⟨O, ds, d, ok, r, e, q⟩ => ?_
    unfold bfnD at e
    split at e <;> first
      | contradiction
      | skip
    · have z := Option.some.inj e
      subst z
      obtain ⟨v, e1, r1⟩ := pair1 r
      subst e1
      cases r1 with
      | lst h1 r2 => exact ⟨_, _, rfl, .inl (.inl (rd_of h1)), by rw [pair_len r2]; exact q _ _ (Same.refl _) (.int _)⟩
    · have z := Option.some.inj e
      subst z
      obtain ⟨v, e1, r1⟩ := pair1 r
      subst e1
      cases r1 with
      | tup h1 r2 => exact ⟨_, _, rfl, .inr (.of (of_hide h1).1), by rw [pair_len r2]; exact q _ _ (Same.refl _) (.int _)⟩
  | max =>
    refine callBy ((call_max2 hc).or (cr_max hc)) fun vs H Q ⟨O, ds, d, ok, r, e, q⟩ => ?_
    unfold bfnD at e
    split at e <;> first
      | contradiction
      | skip
    · have z := Option.some.inj e
      subst z
      obtain ⟨v, u, e1, r1, r2⟩ := pair2 r
      subst e1
      cases r1; cases r2
      refine .inl ⟨_, _, rfl, ?_⟩
      rw [max_eq]
      exact q _ H (Same.refl _) (.int _)
    · obtain ⟨hn, e⟩ := guard_e e
      obtain ⟨ns, h1, z⟩ := map_some' e
      subst z
      obtain ⟨v, e1, r1⟩ := pair1 r
      subst e1
      cases r1 with
      | lst h2 r2 =>
        have ex := intsOf_rp h1 r2
        subst ex
        have ne := isEmpty_ne h1 hn
        refine .inr ⟨_, ns, rfl, .inl (rd_of h2), List.length_pos_iff.mpr ne, fun m hm hb => ?_⟩
        obtain ⟨s1, s2⟩ := maxI_spec ne
        have em : m = maxI ns := by
          have := hb _ s1
          have := s2 _ hm
          omega
        rw [em]
        exact q _ _ (Same.refl _) (.int _)
  | min =>
    refine callBy ((call_min2 hc).or (cr_min hc)) fun vs H Q ⟨O, ds, d, ok, r, e, q⟩ => ?_
    unfold bfnD at e
    split at e <;> first
      | contradiction
      | skip
    · have z := Option.some.inj e
      subst z
      obtain ⟨v, u, e1, r1, r2⟩ := pair2 r
      subst e1
      cases r1; cases r2
      refine .inl ⟨_, _, rfl, ?_⟩
      rw [min_eq]
      exact q _ H (Same.refl _) (.int _)
    · obtain ⟨hn, e⟩ := guard_e e
      obtain ⟨ns, h1, z⟩ := map_some' e
      subst z
      obtain ⟨v, e1, r1⟩ := pair1 r
      subst e1
      cases r1 with
      | lst h2 r2 =>
        have ex := intsOf_rp h1 r2
        subst ex
        have ne := isEmpty_ne h1 hn
        refine .inr ⟨_, ns, rfl, .inl (rd_of h2), List.length_pos_iff.mpr ne, fun m hm hb => ?_⟩
        obtain ⟨s1, s2⟩ := minI_spec ne
        have em : m = minI ns := by
          have := hb _ s1
          have := s2 _ hm
          omega
        rw [em]
        exact q _ _ (Same.refl _) (.int _)
  | sum =>
    refine callBy (cr_sum hc) fun vs H Q ⟨O, ds, d, ok, r, e, q⟩ => ?_
    unfold bfnD at e
    split at e <;> first
      | contradiction
      | skip
    obtain ⟨ns, h1, z⟩ := map_some' e
    subst z
    obtain ⟨v, e1, r1⟩ := pair1 r
    subst e1
    cases r1 with
    | lst h2 r2 =>
      have ex := intsOf_rp h1 r2
      subst ex
      exact ⟨_, ns, rfl, .inl (rd_of h2), q _ _ (Same.refl _) (.int _)⟩
  | abs =>
    refine callBy call_abs fun vs H Q ⟨O, ds, d, ok, r, e, q⟩ => ?_
    unfold bfnD at e
    split at e <;> first
      | contradiction
      | skip
    have z := Option.some.inj e
    subst z
    obtain ⟨v, e1, r1⟩ := pair1 r
    subst e1
    cases r1
    refine ⟨_, rfl, ?_⟩
    rw [abs_eq]
    exact q _ _ (Same.refl _) (.int _)
/-- int(x) -/
def intD : List D → Option D
  | [.int i] => some (.int i)
  | [.bool b] => some (.int (if b then 1 else 0))
  | _ => none
theorem int_ok : CallR X (.type "int") (rL intD) := callBy call_int1 fun vs H Q ⟨O, ds, d, ok, r, e, q⟩ => by
  unfold intD at e
  split at e <;> first
    | contradiction
    | skip
  · have z := Option.some.inj e
    subst z
    obtain ⟨v, e1, r1⟩ := pair1 r
    subst e1
    cases r1
    exact .inl ⟨_, rfl, q _ _ (Same.refl _) (.int _)⟩
  · have z := Option.some.inj e
    subst z
    obtain ⟨v, e1, r1⟩ := pair1 r
    subst e1
    cases r1
    exact .inr ⟨_, rfl, q _ _ (Same.refl _) (.int _)⟩
/-- list(x) -/
def listF : List D → Option (List D)
  | [.list xs] => some xs
  | [.tuple xs] => some xs
  | _ => none
theorem list_ok : CallR X (.type "list") (rLF listF) := callBy call_list_of fun vs H Q ⟨O, ds, es, ok, r, e, q⟩ => by
  unfold listF at e
  split at e <;> first
    | contradiction
    | skip
  · have z := Option.some.inj e
    subst z
    obtain ⟨v, e1, r1⟩ := pair1 r
    subst e1
    cases r1 with
    | lst h1 r2 => exact ⟨_, _, rfl, .inl (.inl (rd_of h1)), fun p n => q p _ _ n (same_new n) upd_same (seenF n r2)⟩
  · have z := Option.some.inj e
    subst z
    obtain ⟨v, e1, r1⟩ := pair1 r
    subst e1
    cases r1 with
    | tup h1 r2 => exact ⟨_, _, rfl, .inr (.of (of_hide h1).1), fun p n => q p _ _ n (same_new n) upd_same (seenF n r2)⟩
/-- tuple(x) -/
def tupleD : List D → Option D
  | [.list xs] => some (.tuple xs)
  | [.tuple xs] => some (.tuple xs)
  | _ => none
theorem tuple_ok : CallR X (.type "tuple") (rL tupleD) := callBy call_tuple_of fun vs H Q ⟨O, ds, d, ok, r, e, q⟩ => by
  unfold tupleD at e
  split at e <;> first
    | contradiction
    | skip
  · have z := Option.some.inj e
    subst z
    obtain ⟨v, e1, r1⟩ := pair1 r
    subst e1
    cases r1 with
    | lst h1 r2 => exact ⟨_, _, rfl, .inl ⟨.inl (rd_of h1), fun p n => q _ _ (same_new n) (seenTup ok n r2)⟩⟩
  · have z := Option.some.inj e
    subst z
    obtain ⟨v, e1, r1⟩ := pair1 r
    subst e1
    cases r1 with
    | tup h1 r2 => exact ⟨_, _, rfl, .inr ⟨.of (of_hide h1).1, q _ _ (Same.refl _) (.tup h1 r2)⟩⟩

/-! ### isinstance -/
def tyD : D → String
  | .none => "NoneType" | .bool _ => "bool" | .int _ => "int" | .str _ => "str" | .list _ => "list" | .tuple _ => "tuple" | .dict _ => "dict"
inductive Ty where
  | int | bool | list | tuple | str
def Ty.py : Ty → String
  | .int => "int" | .bool => "bool" | .list => "list" | .tuple => "tuple" | .str => "str"
def Ty.nm : Ty → Str
  | .int => "int" | .bool => "bool" | .list => "list" | .tuple => "tuple" | .str => "str"
def isD : Ty → D → Bool
  | .int, .int _ => true | .int, .bool _ => true | .bool, .bool _ => true | .list, .list _ => true | .tuple, .tuple _ => true | .str, .str _ => true
  | _, _ => false
theorem kit_is (t : Ty) (d : D) (nd : tyD d ≠ "dict") : kitB (tyD d) t.py = some (isD t d) := by
  cases d with
  | none => cases t <;> decide +kernel
  | bool b => cases t <;> first | (show kitB "bool" _ = some true; decide +kernel) | (show kitB "bool" _ = some false; decide +kernel)
  | int b => cases t <;> first | (show kitB "int" _ = some true; decide +kernel) | (show kitB "int" _ = some false; decide +kernel)
  | str b => cases t <;> first | (show kitB "str" _ = some true; decide +kernel) | (show kitB "str" _ = some false; decide +kernel)
  | list b => cases t <;> first | (show kitB "list" _ = some true; decide +kernel) | (show kitB "list" _ = some false; decide +kernel)
  | tuple b => cases t <;> first | (show kitB "tuple" _ = some true; decide +kernel) | (show kitB "tuple" _ = some false; decide +kernel)
  | dict b => exact absurd rfl nd
/-- isinstance(x, T): the class a value -/
def rIs (t : Ty) : List V → Hp → VK → Prop := fun vs H Q => ∃ O x dx, OOk O H ∧ vs = [x, .ty t.py] ∧ Rp (hide O H) x dx ∧ tyD dx ≠ "dict" ∧ Q (.bl (isD t dx)) H
theorem is_ok (t : Ty) : CallR X (.builtin "isinstance") (rIs t) := callBy call_isi fun vs H Q ⟨O, x, dx, ok, e, r, nd, q⟩ => by
  refine ⟨x, .ty t.py, .type (tyD dx), .type t.py, isD t dx, e, .ty _, ?_, kit_ty (kit_is t dx nd), q⟩
  cases r with
  | non => exact .base .non
  | bl b => exact .base (.bl b)
  | int i => exact .base (.int i)
  | str z => exact .base (.str z)
  | lst h _ =>
    rcases rd_of h with h | ⟨o, h⟩
    · exact .base (.lst h)
    · exact .base (.frz h)
  | tup h _ => exact .base (.tup (of_hide h).1)
  | dK _ _ _ => exact absurd rfl nd
  | dT _ _ _ => exact absurd rfl nd

/-! ### sorted -/
def neTup : D → Bool
  | .tuple (_ :: _) => true
  | _ => false
def noTup : D → Bool
  | .none | .tuple _ => false
  | _ => true
def sortOk (ds : List D) : Bool := ds.all (fun d => SeqAt.shaped d && ds.all fun d' => PySem.W.alike d d') && (ds.all neTup || ds.all noTup) && decide (ds.length ≤ sizeLine)
def leD : D → D → Bool := PySem.W.dataLe false id
def sortF : List D → Option (List D)
  | [.list ds] => if sortOk ds = true then some (ds.mergeSort leD) else none
  | _ => none
theorem map_sort {α β : Type} (f : α → β) (le : β → β → Bool) (xs : List α) : (xs.mergeSort fun a b => le (f a) (f b)).map f = (xs.map f).mergeSort le := by
  rw [List.map_mergeSort]
  intro a _ b _
  rfl
theorem sort_ok (hu : X.A.units + 70 < cLine) : CallR X (.builtin "sorted") (rLF sortF) := by
  rintro pins s σ H vs us Q I rv ⟨O, ds, es, ok, r, e, q⟩
  unfold sortF at e
  split at e <;> first
    | contradiction
    | skip
  rename_i xs
  obtain ⟨hs, z⟩ := ite_some e
  subst z
  obtain ⟨v, e1, r1⟩ := pair1 r
  subst e1
  cases r1 with
  | lst h1 r2 =>
    rename_i a ws
    unfold sortOk at hs
    rw [Bool.and_eq_true, Bool.and_eq_true] at hs
    obtain ⟨⟨hA, hB⟩, hC⟩ := hs
    have hA' : ∀ d ∈ xs, SeqAt.shaped d = true ∧ ∀ d' ∈ xs, PySem.W.alike d d' = true := fun d hd => by
      have := List.all_eq_true.mp hA d hd
      rw [Bool.and_eq_true] at this
      exact ⟨this.1, fun d' hd' => List.all_eq_true.mp this.2 d' hd'⟩
    obtain ⟨its, n, rit, lit, ho⟩ := lstR I (rd_of h1)
    have hsub : Sub (hide O H) H := same_sub fun a o h => (of_hide h).1
    -- the values beside their data
    have build : ∀ (ws : List V) (xs : List D) (its : List Value), Vals ws its → RpA (hide O H) ws xs → (∀ d ∈ xs, SeqAt.shaped d = true) →
        PySem.W.EachIs (fun (u : Value) (p : V × D) => RelV p.1 u) its (ws.zip xs) ∧ PySem.W.EachIs (fun (u : Value) (p : V × D) => ∃ as, Reads s.heap u p.2 as) its (ws.zip xs) := by
      intro ws xs its hv hr
      induction hr generalizing its with
      | nil => intro _; cases hv; exact ⟨.nil, .nil⟩
      | cons hd tl ih =>
        intro hsh
        cases hv with
        | cons hv1 hv2 =>
          obtain ⟨i1, i2⟩ := ih _ hv2 fun d hd => hsh d (List.mem_cons_of_mem _ hd)
          refine ⟨.cons hv1 i1, .cons ?_ i2⟩
          exact Dp.reads I _ _ _ (Rp.dp hsub _ _ hd (SeqAt.canLay_of_shaped (hsh _ List.mem_cons_self))) hv1
    obtain ⟨b1, b2⟩ := build ws xs its rit r2 fun d hd => (hA' d hd).1
    have hlen := pair_len r2
    have hz : (ws.zip xs).map Prod.snd = xs := by
      rw [List.map_snd_zip (by omega)]
    have hz1 : (ws.zip xs).map Prod.fst = ws := by
      rw [List.map_fst_zip (by omega)]
    have hlx : (ws.zip xs).length ≤ sizeLine := by
      rw [List.length_zip]
      have := of_decide_eq_true hC
      omega
    have hal : PySem.W.AllAlike ((ws.zip xs).map Prod.snd) := by
      rw [hz]
      exact fun d hd d' hd' => (hA' d hd).2 d' hd'
    have hso : PySem.W.Sortable ((ws.zip xs).map Prod.snd) := by
      rw [hz]
      rw [Bool.or_eq_true] at hB
      rcases hB with hB | hB
      · left
        intro d hd
        have := List.all_eq_true.mp hB d hd
        unfold neTup at this
        split at this
        · exact ⟨_, _, rfl⟩
        · cases this
      · right
        intro d hd
        have := List.all_eq_true.mp hB d hd
        refine ⟨fun z => ?_, fun ys z => ?_⟩
        · subst z; cases this
        · subst z; cases this
    have hdep : ∀ p, p ∈ ws.zip xs → X.A.units + 2 + p.2.depth < cLine := fun p hp => by
      have hp2 : p.2 ∈ xs := (List.of_mem_zip (show (p.1, p.2) ∈ ws.zip xs from hp)).2
      have := SeqAt.depth_of_shaped (hA' _ hp2).1
      omega
    cases rv with
    | cons rv1 rv2 =>
      cases rv2
      cases rv1
      refine PySem.W.sorted_data (vs := its) (enc := Prod.snd) ⟨_, ho, rfl, _, rfl⟩ b1 b2 hal hso hlx hdep fun out ho' eo => ?_
      have keep : ∀ b o, s.heap.get? b = some o → (PyProof.Rows.sortedAll s.heap its out.toArray).get? b = some o := fun b o => PyProof.Rows.sortedAll_old
      obtain ⟨c, hc⟩ := PyProof.Rows.sortedAll_at s.heap its out.toArray
      -- what came out
      have hperm : ((ws.zip xs).mergeSort (PySem.W.dataLe false Prod.snd)).Perm (ws.zip xs) := List.mergeSort_perm _ _
      have outV : ∀ (out : List Value) (ps : List (V × D)), PySem.W.EachIs (fun (u : Value) (p : V × D) => RelV p.1 u) out ps → Vals (ps.map Prod.fst) out := by
        intro out ps h
        induction h with
        | nil => exact .nil
        | cons h1 _ ih => exact .cons h1 ih
      have zipR : ∀ (ws : List V) (xs : List D), RpA (hide O H) ws xs → ∀ p ∈ ws.zip xs, Rp (hide O H) p.1 p.2 := by
        intro ws xs h
        induction h with
        | nil => intro p hp; cases hp
        | cons h1 _ ih =>
          intro p hp
          rw [List.zip_cons_cons] at hp
          rcases List.mem_cons.mp hp with rfl | hp
          · exact h1
          · exact ih p hp
      have psR : ∀ ps : List (V × D), (∀ p ∈ ps, Rp (hide O H) p.1 p.2) → RpA (hide O H) (ps.map Prod.fst) (ps.map Prod.snd) := by
        intro ps
        induction ps with
        | nil => intro _; exact .nil
        | cons p ps ih => intro h; exact .cons (h p List.mem_cons_self) (ih fun q hq => h q (List.mem_cons_of_mem _ hq))
      have rr := psR _ fun p hp => zipR _ _ r2 p (hperm.mem_iff.mp hp)
      have es : ((ws.zip xs).mergeSort (PySem.W.dataLe false Prod.snd)).map Prod.snd = xs.mergeSort leD := by
        have := map_sort (Prod.snd : V × D → D) leD (ws.zip xs)
        rw [hz] at this
        exact this
      rw [es] at rr
      have fr : H (s.heap.objs.size + 1) = none := I.hok.fresh (Nat.le_succ _)
      have I' : Inv X pins σ (upd H (s.heap.objs.size + 1) (.lst (((ws.zip xs).mergeSort (PySem.W.dataLe false Prod.snd)).map Prod.fst))) { s with heap := PyProof.Rows.sortedAll s.heap its out.toArray, toks := s.toks } := by
        refine I.laid keep (Nat.le_succ _) ⟨?_, out, c, outV _ _ eo, hc⟩
        rw [List.length_map, List.length_mergeSort]
        exact hlx
      exact ⟨.ref (s.heap.objs.size + 1), _, I', rfl, q _ _ _ fr (same_new fr) upd_same (seenF fr rr)⟩
end
end Fv

set_option Elab.async false
set_option linter.all false
set_option maxRecDepth 100000
set_option autoImplicit false
set_option maxHeartbeats 1600000
/-! FvC3: the promise of a def that is called while no repr is under way (GnOk); its call, its proof from a body, the law's own call. -/
namespace Fv
open PySem L2 PySem.Spec PyProof.Rows
/-- what a def promises where no guarded code is under way; no exception leaves it -/
structure GnOk (P : Program) (w : World) (K : PySem.W.Frag) (mg : Str → Option Value) (base : Heap) (k : Nat) (f : Addr) (fd : FuncData) (ps : List Str) (sp : Sp) : Prop where
  arity : ∀ vs H Q E, sp vs H Q E → vs.length = ps.length
  go : ∀ (A : Around) (envs : List PySem.Env) (s : Shared) (H : Hp) (arg : Args) (us : List Value) (vs : List V) (Q : VK), A.guards = some [] → Room k A → Env0 P w K mg base A envs s H → BindsTo s fd arg (ps.zip us) → Vals vs us → sp vs H Q E0 →
    codeAny (model P w) A (.call (.ref f) arg) (CR CX0 envs P w H s Q E0) s
theorem GnOk.at_ {P : Program} {w : World} {K : PySem.W.Frag} {mg : Str → Option Value} {base : Heap} {j k : Nat} {f : Addr} {fd : FuncData} {ps : List Str} {sp : Sp} (g : GnOk P w K mg base j f fd ps sp) (le : j ≤ k) : GnOk P w K mg base k f fd ps sp where
  arity := g.arity
  go := fun A envs s H arg us vs Q gd rm en bd va h => g.go A envs s H arg us vs Q gd (rm.mono le) en bd va h
section
variable {X : Cx} {k : Nat} {f : Addr} {fd : FuncData} {ps : List Str} {sp : Sp} {x : Str} {p pos : Pos} {e : Expr} {es : List Expr} {t : TA}
theorem pe_callG (G : GnOk X.prog X.w X.K X.mg X.base k f fd ps sp) (gd : X.A.guards = some []) (rm : Room k X.A) (gl : Gl X x) (at_ : X.mg x = some (.ref f)) (kp : PySem.W.keepIn X.K (.ref f) = true) (bs : Binds X.K fd ps [])
    (args : PA X (e :: es) t) (nd : (x == ("__debug__" : Str)) = false) (st : starEach (e :: es) X.env = (false, eval e X.env) :: starEach es X.env) (pl : (backTo pos (starEach es X.env)).any (·.1) = false) :
    PE X (.Call (.Name x p) (e :: es) [] pos) (tCall sp [] E0 t) := by
  refine ⟨fun pins s σ H Q inv h => wpAny_Call_Name_kw (ld_glob inv gl at_ (PySem.W.callWith_K (h₀ := X.base) inv.ok.mod.kin kp (thn (args.run pos pins s σ H _ inv h) fun us s1 ⟨vs, H1, inv1, rel, q⟩ => ⟨inv1.kIn, ?_⟩) st pl) nd)⟩
  have q : sp (vs ++ []) H1 Q E0 := q
  rw [List.append_nil] at q
  have len : (us ++ []).length = ps.length := by
    rw [List.append_nil, ← rel.length]
    exact G.arity _ _ _ _ q
  have bind := bs s1 us inv1.kIn len
  rw [List.append_nil] at bind
  refine wpAny_call (codeAny_mono (G.go X.A X.stack s1 H1 ⟨us, []⟩ us vs Q gd rm inv1.env0 bind rel q) fun res s2 out => ?_)
  cases res with
  | error ex => exact False.elim out
  | ok fl =>
    cases fl with
    | ret u => exact inv1.after out
    | next | brk | cont => exact False.elim out
end
/-- a def of the text, by its body -/
theorem gn_of {P : Program} {w : World} {K : PySem.W.Frag} {mg : Str → Option Value} {base : Heap} {k : Nat} {x qual : Str} {st : Stmt} {f : Addr} {fd : FuncData} {N ps : List Str} {sp : Sp} (F : L2.Fun K x qual st f fd) (S : FnScope N ps (defScope st))
    (ar : ∀ vs H Q E, sp vs H Q E → vs.length = ps.length)
    (body : ∀ (cdv : Value) (A : Around) (envs : List PySem.Env) (s : Shared) (H : Hp) (vs : List V) (Q : VK), (A.deeper (envOfC qual (defScope st) s.heap.objs.size f cdv)).guards = some [] → Room k (A.deeper (envOfC qual (defScope st) s.heap.objs.size f cdv)) → sp vs H Q E0 →
      ∃ t, PSs (cxOf CX0 P w K mg base N qual (defScope st) f cdv A envs s H E0).nox (defBody st) t ∧ t { nx := fun _ H' => Q .non H', rt := Q } (L2.start N vs) H) : GnOk P w K mg base (k + 1) f fd ps sp := by
  obtain ⟨oc, od, kV, doc, pm, an, cdv, ct, osl, efd, lk, code⟩ := F.ex
  subst efd
  refine ⟨ar, fun A envs s H arg us vs Q gd rm en bd va h => ?_⟩
  have nargs := ar _ _ _ _ h
  have written : K.In s.heap := en.mod.kin.keeps fun b o z => (en.bs b o z).1
  have nolim : s.heap.NoLimit := en.mod.nolimit.keeps fun b o z => (en.bs b o z).1
  have kinds : ∀ y ∈ ps.zip us, (defScope st).names.lookup y.1 = some .local ∨ ((defScope st).names.lookup y.1 = some .cell ∧ ((cellsFrom (s.heap.objs.size + 1) (defScope st).names []).lookup y.1).isSome = true) := fun y hy => by
    rcases S.par y.1 (List.of_mem_zip hy).1 with z | z
    · exact .inl z
    · exact .inr ⟨z, PySem.W.cellsFrom_some _ _ _ (.inl z)⟩
  refine codeAny_call_function rm.depth (written _ _ lk) rfl S.co S.gen rfl (PySem.W.codeRec_of written code) (bd _ _ _ _ (wpAny_newFunctionEnv_cells S.kind kinds fun env same s1 into => ?_))
  subst same
  refine ⟨nolim.keeps into.toInCall.keep, codeAny_func ?_⟩
  obtain ⟨t, ps', start'⟩ := body cdv A envs s H vs Q gd (rm.deeper _) h
  have inv : Inv (cxOf CX0 P w K mg base N qual (defScope st) f cdv A envs s H E0) [] (L2.start N vs) H s1 := inv_start S rm.hd en nargs va into
  refine wpAny_mono (ps'.nox.run [] s1 (L2.start N vs) H _ inv start') (fun fl s2 sp2 => ?_) fun ex s2 bad => bad
  have leave : ∀ {σ' : L2.St} {H' : Hp} {v : V} {u : Value}, Inv (cxOf CX0 P w K mg base N qual (defScope st) f cdv A envs s H E0) [] σ' H' s2 → RelV v u → Q v H' → CE envs P w H s Q u s2 :=
    fun {σ' H' v u} J rel q => ⟨v, H', J.os, J.bare, J.base, J.hok, rel, q⟩
  cases fl with
  | ret u =>
    obtain ⟨v, σ', H', J, rel, q⟩ := sp2
    exact leave J rel q
  | next =>
    obtain ⟨σ', H', J, q⟩ := sp2
    exact leave (v := V.non) (u := Value.none) J rfl q
  | brk =>
    obtain ⟨_, _, _, q⟩ := sp2
    exact False.elim q
  | cont =>
    obtain ⟨_, _, _, q⟩ := sp2
    exact False.elim q
/-- nothing written behind the top is a list -/
def noLists (K : PySem.W.Frag) : Bool := K.all fun p => !(p.2.cls == .type "list")
theorem not_list {K : PySem.W.Frag} (h : noLists K = true) {a : Addr} {o : Obj} (hk : K.lookup a = some o) (hc : o.cls = .type "list") : False := by
  have z := List.all_eq_true.mp h (a, o) (PySem.W.mem_of_lookupK hk)
  rw [hc] at z
  cases z
/-- the law's own call, at the heap behind the top -/
theorem law_callG {P : Program} {w : World} {K : PySem.W.Frag} {mg mb : Str → Option Value} {k : Nat} {fa a : Addr} {fd : FuncData} {x : Str} {sp : Sp} {s₁ : Shared} {vs : List Value} {ns : List Int} (nl : noLists K = true)
    (written : K.In s₁.heap) (top : s₁.heap.Ns mainGlobals mg) (blt : s₁.heap.Ns builtinsNs mb) (boot : ∀ y : Str, y ≠ "__name__" → mb y = bootBuiltins y) (nolim : s₁.heap.NoLimit) (nogens : s₁.gens = #[])
    (script : s₁.heap.get? a = some { cls := .type "list", data := .seq vs.toArray }) (nums : IntsAre vs ns) (small : ns.length ≤ sizeLine) (rm : Room k callerA)
    (F : ∀ base : Heap, K.In base → base.Ns mainGlobals mg → GnOk P w K mg base k fa fd [x] sp) (bd : ∀ (s : Shared) (u : Value), BindsTo s fd ⟨[u], []⟩ [(x, u)])
    (h : ∀ H : Hp, Rd H a (.lst (ns.map V.int)) → sp [.ref a] H (fun v _ => v = .bl true) E0) :
    codeAny (model P w) callerA (.call (.ref fa) ⟨[.ref a], []⟩) (fun r s' => r = .ok (.ret (.bool true)) ∧ OldK s₁.heap s'.heap ∧ s'.os = s₁.os ∧ AllBare s'.gens) s₁ := by
  have outside : K.lookup a = none := by
    cases z : K.lookup a with
    | none => rfl
    | some o =>
      have there := written a o z
      rw [script] at there
      cases there
      exact (not_list nl z rfl).elim
  -- the heap in which the script alone is tracked
  let H : Hp := fun b => if b = a then some (.frz { cls := .type "list", data := .seq vs.toArray } (.lst (ns.map V.int))) else none
  have Ha : H a = some (.frz { cls := .type "list", data := .seq vs.toArray } (.lst (ns.map V.int))) := if_pos rfl
  have Hb : ∀ {b : Addr}, b ≠ a → H b = none := fun z => if_neg z
  have of_H : ∀ {b : Addr} {u : HO}, H b = some u → b = a ∧ u = .frz { cls := .type "list", data := .seq vs.toArray } (.lst (ns.map V.int)) := fun {b u} z => by
    by_cases c : b = a
    · subst c
      rw [Ha] at z
      exact ⟨rfl, (Option.some.inj z).symm⟩
    · rw [Hb c] at z
      cases z
  have into : ∀ {b : Addr} {o : Obj}, s₁.heap.get? b = some o → b ≠ a → (hidT s₁.heap H).get? b = some o := fun g c => hidT_get g (Hb c)
  have isDict : ∀ {b : Addr} {o : Obj} {es : Array DictEntry} {ep : Nat}, s₁.heap.get? b = some o → o.data = .dict es ep → b ≠ a := fun {b o es ep} g d c => by
    subst c
    rw [script] at g
    cases g
    have d' : Data.seq vs.toArray _ = Data.dict es ep := d
    cases d'
  have names : ∀ {b : Addr} {m : Str → Option Value}, s₁.heap.Ns b m → (hidT s₁.heap H).Ns b m := fun {b m} ⟨o, es, ep, g, d, r⟩ => ⟨o, es, ep, into g (isDict g d), d, r⟩
  have inK : K.In (hidT s₁.heap H) := fun b o z => into (written b o z) fun c => by
    subst c
    rw [outside] at z
    cases z
  have ok : HOk P w H s₁.heap := fun b u z => by
    obtain ⟨c, d⟩ := of_H z
    subst c d
    exact ⟨script, by rw [List.length_map]; exact small, vs, _, vals_ints nums, script⟩
  have mod : Mod K mg (hidT s₁.heap H) := ⟨inK, names top, ⟨mb, names blt, boot⟩, nolim.elim fun mc z => ⟨mc, names z.1, z.2⟩⟩
  have en : Env0 P w K mg (hidT s₁.heap H) callerA [] s₁ H := ⟨rfl, mod, fun b o z => of_hidT z, Nat.le_of_eq (hidT_size _ _), trivial, fun b z => (List.not_mem_nil (show b ∈ ([] : List Addr) from z)).elim, ok, .of_eq nogens⟩
  refine codeAny_mono ((F _ inK (names top)).go callerA [] s₁ H ⟨[.ref a], []⟩ [.ref a] [.ref a] _ rfl rm en (bd s₁ (.ref a)) (.cons rfl .nil) (h H (.inr ⟨_, Ha⟩))) fun res s2 out => ?_
  cases res with
  | error ex => exact False.elim out
  | ok fl =>
    cases fl with
    | next | brk | cont => exact False.elim out
    | ret u =>
      obtain ⟨v, H', os, bare, un, ok', rel, q⟩ := out
      have q' : v = .bl true := q
      subst q'
      have eu : u = Value.bool true := rel
      subst eu
      refine ⟨rfl, OldK.of_keep fun b o g => ?_, os, bare⟩
      by_cases c : b = a
      · subst c
        rw [script] at g
        cases g
        exact (ok' b _ (un.frzs b _ _ Ha)).1
      · exact un.keep b o g (Hb c) (fun z => (List.not_mem_nil (show b ∈ ([] : List Addr) from z)).elim) (by simp)
/-- the goal that k_head leaves (case hc), from the promise of the law's def -/
theorem walk_G {l : PySem.W.OpenLaw} {n k : Nat} {q : Program} {loose : List Str} {XP : (Str → Option Value) → Heap → Prop} {YP : World → Heap → Prop} {d : DefRec} {K : Params → PySem.W.Frag} {sp : Sp} {x : Str}
    (most : l.most = some n) (small : n ≤ sizeLine) (nodef : d.params.defaults = []) (rm : Room k callerA) (facts : ∀ (w : World) (h : Heap), YP w h → (K w.params).In h) (nl : ∀ w : World, noLists (K w.params) = true)
    (F : ∀ (w : World) (mg : Str → Option Value) (fa : Addr) (h : Heap), (K w.params).In h → h.Ns mainGlobals mg → mg d.name = some (.ref fa) →
      ∃ fd : FuncData, (∀ (s : Shared) (u : Value), BindsTo s fd ⟨[u], []⟩ [(x, u)]) ∧ ∀ base : Heap, (K w.params).In base → base.Ns mainGlobals mg → GnOk l.prog w (K w.params) mg base k fa fd [x] sp)
    (h : ∀ (H : Hp) (a : Addr) (ns : List Int), ns.length ≤ n → Rd H a (.lst (ns.map V.int)) → sp [.ref a] H (fun v _ => v = .bl true) E0) : PySem.W.WalkO q loose XP YP l.row.toRowW d [] (fun f vs => PySem.call f vs) := by
  refine Att.attach_call most nodef fun w s₀ s₁ mg mb fa o pm cd doc a vs ns G Y _ _ _ named script nums few nogens => ?_
  obtain ⟨fd, bd, prom⟩ := F w mg fa _ (facts w _ Y) G.T.g named
  exact law_callG (nl w) (facts w _ Y) G.T.g G.T.b G.T.builtins G.T.nolimit nogens script nums (Nat.le_trans few small) rm prom bd fun H rd => h H a ns few rd
end Fv

set_option Elab.async false
set_option linter.all false
set_option maxRecDepth 100000
set_option autoImplicit false
set_option maxHeartbeats 3200000
/-! FvC4: sorted(set(xs)) of a list of ints; repr of data. -/
namespace Fv
open PySem L2 PySem.Spec PyProof.Rows
/-- an empty set as set() lays it -/
abbrev set0 (w : World) : Obj := { cls := .type "set", dict := none, data := .set #[] 0 (.fresh 0 0 (!w.params.followText "set-order")) }
section
variable {P : Program} {w : World} {A : Around} {E : Value → Shared → Prop} {s : Shared}
theorem set_of_list {l : Addr} {arr : Array Value} (ns : List Int) {Q : Value → Shared → Prop} (calm : A.handled = none) (isL : s.heap.IsList l arr) (nums : IntsAre arr.toList ns) (few : ns.length + 1 < scanBound)
    (fin : ∀ (h2 : Heap) (tk c : Nat), SetR w h2 s.heap.objs.size (fun j => decide (j ∈ ns)) c → c ≤ ns.length → (∀ b o, s.heap.get? b = some o → h2.get? b = some o) → Q (.ref s.heap.objs.size) { s with heap := h2, toks := tk }) :
    wpAny (model P w) A (call (.type "set") [.ref l]) Q E s := by
  have size : arr.size = ns.length := (Array.length_toList).symm.trans (IntsAre.length nums)
  obtain ⟨cc, tail, mro⟩ := F.called_set.mro
  have fact1 := F.called_set.made
  have fact2 := F.called_set.sub
  have fact3 := F.called_set.notType
  have fact4 := F.called_set.canCreate
  have fact5 := F.typeCall_set_1 (.ref l)
  refine wpAny_call (codeAny_of_tree (show wpAny _ _ (callAny (.type "set") _) _ _ _ from wpAny_pure ⟨Code.quiet_builtin _ (by decide +kernel), codeAny_builtin F.entry_type_call ?_⟩))
  rw [Around.under_plain (weight_type_call_type "set" [.ref l] []) rfl]
  repeat (any_goals (first | assumption | wp_step))
  refine codeAny_mono (code_set_led1 (.ref l) (E := E) (Q₁ := fun new s₁ => new = .ref s.heap.objs.size ∧ s₁ = { s with heap := s.heap.push (set0 w) }) ⟨rfl, rfl⟩) fun res s₁ out => ?_
  cases res with
  | error ex => exact out
  | ok fl =>
    cases fl with
    | ret new =>
      obtain ⟨rfl, rfl⟩ := out
      have laid : (s.heap.push (set0 w)).get? s.heap.objs.size = some (set0 w) := Heap.get?_push_size _ rfl
      have isSet : Shared.TypeIs { s with heap := s.heap.push (set0 w) } (.ref s.heap.objs.size) "set" := ⟨_, laid, rfl⟩
      have fact6 := F.called_set.init.lookup
      have fact7 := F.called_set.init.bind (.ref s.heap.objs.size)
      repeat (any_goals (first | assumption | wp_step))
      refine codeAny_mono (codeAny_call_builtin (R := wants (fun none' s₂ => none' = .none ∧ ∃ h2 tk c, s₂ = { s with heap := h2, toks := tk } ∧ SetR w h2 s.heap.objs.size (fun j => decide (j ∈ ns)) c ∧ c ≤ ns.length ∧
          (∀ b o, s.heap.get? b = some o → h2.get? b = some o)) E) F.called_set.init.plain F.entry_set_init (check_set_init_1 isSet ?_)) fun res2 s₂ out2 => ?_
      · obtain ⟨ol, there, cls, nl, data⟩ := isL
        obtain ⟨ocls, odict, odata, oslots⟩ := ol
        simp only at cls data
        subst cls; subst data
        have there2 : (s.heap.push (set0 w)).get? l = some { cls := .type "list", dict := odict, data := .seq arr nl, slots := oslots } := Heap.get?_push_of_some _ there
        have fact8 := F.sub_list_set
        have fact9 := F.sub_list_frozenset
        have fact10 : (Value.type "list" == Value.type "dict") = false := by decide
        have isL2 : (s.heap.push (set0 w)).IsList l arr := ⟨_, there2, rfl, nl, rfl⟩
        unfold Builtin.«set.__init__» noKeywords Builtin.Frozenset.updateFrom
        generalize it : pyIter = PI
        wp_walk
        subst it
        refine wpAny_pyIter_list isL2 (wpAny_bind (wpAny_runValue ?_))
        have old : l < s.heap.objs.size := Heap.lt_size there
        have calm3 : A.in1.in1.in1.handled = none := by simp [calm]
        have grown : (s.heap.push (set0 w)).objs.size = s.heap.objs.size + 1 := Heap.size_push ..
        have apart : l ≠ (s.heap.push (set0 w)).objs.size := by rw [grown]; exact Nat.ne_of_lt (Nat.lt_succ_of_lt old)
        have outside : s.heap.objs.size ∉ [(s.heap.push (set0 w)).objs.size, l] := by
          rw [grown]
          simp only [List.mem_cons, List.not_mem_nil, or_false, not_or]
          exact ⟨Nat.ne_of_lt (Nat.lt_succ_self _), Nat.ne_of_gt old⟩
        have values : ∀ (i : Nat) (v : Value), arr[i]? = some v → ∃ k t, ns[i]? = some k ∧ v = .int k t := fun i v hv => by
          have lt : i < ns.length := size ▸ (Array.getElem?_eq_some_iff.mp hv).1
          obtain ⟨t, e⟩ := PyProof.Rows.IntsAre.int_at nums i v (by rw [Array.getElem?_toList]; exact hv)
          exact ⟨ns[i], t, List.getElem?_eq_getElem lt, by rw [e, List.getD_eq_getElem?_getD, List.getElem?_eq_getElem lt]; rfl⟩
        refine set_update_ints ((Walks.list calm3 _ l apart arr).toS) s.heap.objs.size outside ns size few values (arr.size - 0) 0 _ (by omega) (Nat.zero_le _) ⟨⟨_, Heap.get?_push_size _ rfl, rfl, rfl⟩, (isL2.push _)⟩ ?begin ?after
        case begin => exact ⟨0, Nat.le_refl 0, setR_new_at (Heap.get?_push_of_some _ laid)⟩
        case after =>
          intro s3 c3 moved le3 set3
          obtain ⟨h3, g3, d3, tk3, os3⟩ := s3
          have e1 : g3 = s.gens := moved.gens
          have e2 : d3 = s.drawn := moved.drawn
          have e3 : os3 = s.os := moved.os
          subst e1; subst e2; subst e3
          refine show wpAny _ _ _ _ _ _ from wpAny_pure ?_
          refine show wpAny _ _ (ret Value.none) _ _ _ from wpAny_pure ⟨rfl, h3, tk3, c3, rfl, set3, size ▸ le3, fun b o e => ?_⟩
          have lt : b < s.heap.objs.size := Heap.lt_size e
          refine moved.heap b o (fun z => ?_) (Heap.get?_push_of_some _ (Heap.get?_push_of_some _ e))
          rw [grown] at z
          simp only [List.mem_cons, List.not_mem_nil, or_false] at z
          rcases z with z | z
          · exact Nat.ne_of_lt lt z
          · exact Nat.ne_of_lt (Nat.lt_succ_of_lt lt) z
      · cases res2 with
        | error ex => exact out2
        | ok fl2 =>
          cases fl2 with
          | ret r =>
            obtain ⟨rfl, h2, tk2, c2, rfl, set2, le2, keep2⟩ := out2
            repeat (any_goals (first | assumption | wp_step))
            exact fin _ _ _ set2 le2 keep2
          | _ => exact out2.elim
    | _ => exact out.elim
end
/-! ### sorted(set(xs)) -/
def insS (x : Int) : List Int → List Int
  | [] => [x]
  | y :: r => if x < y then x :: y :: r else if x = y then y :: r else y :: insS x r
def setSort : List Int → List Int
  | [] => []
  | x :: r => insS x (setSort r)
theorem insS_mem {x k : Int} : ∀ {l : List Int}, k ∈ insS x l ↔ k = x ∨ k ∈ l
  | [] => by simp [insS]
  | y :: r => by
    unfold insS
    split
    · simp
    · split
      · rename_i e
        subst e
        simp
      · rw [List.mem_cons, insS_mem, List.mem_cons]
        constructor
        · rintro (h | h | h)
          · exact .inr (.inl h)
          · exact .inl h
          · exact .inr (.inr h)
        · rintro (h | h | h)
          · exact .inr (.inl h)
          · exact .inl h
          · exact .inr (.inr h)
theorem insS_up {x : Int} : ∀ {l : List Int}, l.Pairwise (· < ·) → (insS x l).Pairwise (· < ·)
  | [], _ => by simp [insS]
  | y :: r, h => by
    obtain ⟨h1, h2⟩ := List.pairwise_cons.mp h
    unfold insS
    split
    · rename_i c
      refine List.pairwise_cons.mpr ⟨fun z hz => ?_, h⟩
      rcases List.mem_cons.mp hz with e | e
      · subst e; exact c
      · exact Int.lt_trans c (h1 z e)
    · split
      · exact h
      · rename_i c1 c2
        refine List.pairwise_cons.mpr ⟨fun z hz => ?_, insS_up h2⟩
        rcases insS_mem.mp hz with e | e
        · subst e; omega
        · exact h1 z e
theorem setSort_mem {k : Int} : ∀ {l : List Int}, k ∈ setSort l ↔ k ∈ l
  | [] => Iff.rfl
  | x :: r => by
    show k ∈ insS x (setSort r) ↔ _
    rw [insS_mem, setSort_mem, List.mem_cons]
theorem setSort_up : ∀ l : List Int, (setSort l).Pairwise (· < ·)
  | [] => List.Pairwise.nil
  | x :: r => insS_up (setSort_up r)
theorem up_ext : ∀ {a b : List Int}, a.Pairwise (· < ·) → b.Pairwise (· < ·) → (∀ k, k ∈ a ↔ k ∈ b) → a = b
  | [], [], _, _, _ => rfl
  | [], y :: r, _, _, h => absurd ((h y).mpr List.mem_cons_self) (by simp)
  | y :: r, [], _, _, h => absurd ((h y).mp List.mem_cons_self) (by simp)
  | x :: a, y :: b, ha, hb, h => by
    obtain ⟨h1, h2⟩ := List.pairwise_cons.mp ha
    obtain ⟨h3, h4⟩ := List.pairwise_cons.mp hb
    have e : x = y := by
      rcases List.mem_cons.mp ((h x).mp List.mem_cons_self) with e | e
      · exact e
      · rcases List.mem_cons.mp ((h y).mpr List.mem_cons_self) with e2 | e2
        · exact e2.symm
        · have := h1 y e2
          have := h3 x e
          omega
    subst e
    rw [up_ext h2 h4 fun k => ?_]
    constructor
    · intro hk
      rcases List.mem_cons.mp ((h k).mp (List.mem_cons_of_mem _ hk)) with e | e
      · subst e
        have := h1 k hk
        omega
      · exact e
    · intro hk
      rcases List.mem_cons.mp ((h k).mpr (List.mem_cons_of_mem _ hk)) with e | e
      · subst e
        have := h3 k hk
        omega
      · exact e
def ssetF : List D → Option (List D)
  | [.list xs] => (intsOf xs).bind fun ns => if ns.length < 63 then some ((setSort ns).map .int) else none
  | _ => none
section
variable {X : Cx}
/-- set(xs), xs a list of ints that is read -/
def rSetZ (w : World) : List V → Hp → VK → Prop := fun vs H Q => ∃ (l : Addr) (ns : List Int), vs = [.ref l] ∧ Rd H l (.lst (ns.map V.int)) ∧ ns.length < 63 ∧ ∀ a c, H a = none → c ≤ ns.length → Q (.ref a) (upd H a (SetO w a (fun j => decide (j ∈ ns)) c))
theorem cr_setL (calm : X.calm = true) : CallR X (.type "set") (rSetZ X.w) := by
  rintro pins s σ H vs us Q I rv ⟨l, ns, rfl, rd, few, q⟩
  cases rv with
  | cons r0 r1 =>
    cases r1
    cases r0
    obtain ⟨its, r, pl, _⟩ := I.list (.inl rd)
    refine set_of_list ns (I.ok.hd calm) pl.isList (by simpa using r.ints) (by unfold scanBound; omega) fun h2 tk c set le keep => ?_
    have new : H s.heap.objs.size = none := I.hok.fresh (Nat.le_refl _)
    exact ⟨.ref s.heap.objs.size, _, I.laid (t' := tk) keep (Nat.le_refl _) (setO_new set), rfl, q _ c new le⟩
end
/-! ### repr -/
def reprD : List D → Option D
  | [d] => if d.showable = true ∧ d.canLay0 = true ∧ d.depth < 64 ∧ d.shown.length ≤ sizeLine ∧ itemish d = true then some (.str d.shown) else none
  | _ => none
where itemish : D → Bool
  | .list _ => true
  | .tuple _ => true
  | _ => false
section
variable {X : Cx}
theorem repr_ok (gd : X.A.guards = some []) (hu : X.A.units + 70 < cLine) : CallR X (.builtin "repr") (rL reprD) := by
  rintro pins s σ H vs us Q I rv ⟨O, ds, d, ok, r, e, q⟩
  unfold reprD at e
  split at e
  · rename_i d'
    obtain ⟨⟨h1, h2, h3, h4, h5⟩, z⟩ := ite_some e
    subst z
    cases r with
    | cons r0 r1 =>
      cases r1
      rename_i v
      cases rv with
      | cons q0 q1 =>
        cases q1
        rename_i u
        obtain ⟨a, ea⟩ : ∃ a, v = .ref a := by
          cases r0 <;> first
            | exact ⟨_, rfl⟩
            | cases h5
        subst ea
        cases q0
        obtain ⟨as, rd⟩ := Dp.reads I d' _ _ (Rp.dp (K := X.K) (same_sub fun a u e => (of_hide e).1) d' _ r0 h2) rfl
        refine repr_of_reads' rd h1 (fun z => by rw [PyData.hasDict_of_canLay d' h2] at z; cases z) gd (by omega) (fun _ _ z => z) (fun h' u tk keep => ?_) h4
        exact ⟨.str d'.shown, H, I.kept (t' := tk) keep, ⟨u, rfl⟩, q _ _ (Same.refl _) (.str _)⟩
  · cases e
end
end Fv

set_option Elab.async false
set_option linter.all false
set_option maxRecDepth 100000
set_option autoImplicit false
/-! FvD: the small language: its terms, its pure evaluator, its look at the text. -/
namespace Fv
open PySem L2

inductive Tg where
  | nm (i : Nat)
  | tup (is : List Nat)
mutual
inductive Ex where
  | var (i : Nat)
  | cint (i : Int) | cbl (b : Bool) | cnon | cstr (s : Str)
  | glob (x : Str) (d : D)
  | bin (op : Bop) (a b : Ex)
  | neg (a : Ex)
  | not (a : Ex)
  | and (a b : Ex)
  | or (a b : Ex)
  | cmp (op : Cop) (a b : Ex)
  | chain (op op' : Cop) (a b c : Ex)
  | isN (neg : Bool) (a : Ex)
  | isin (neg : Bool) (a b : Ex)
  | ix (a b : Ex)
  | oix (i : Nat) (b : Ex)
  | slice (a : Ex) (lo hi : Bd)
  | rev (a : Ex)
  | tup (as : As)
  | lst (as : As)
  | rep (as : As) (b : Ex)
  | call (x : Str) (f : List D → Option D) (as : As)
  | callF (x : Str) (f : List D → Option (List D)) (as : As)
  | bfn (f : Bfn) (as : As)
  | int (a : Ex)
  | list (a : Ex)
  | tuple (a : Ex)
  | sorted (a : Ex)
  | lrng (r : It)
  | is (t : Ty) (a : Ex)
  | comp (vs : List Nat) (t : Tg) (it : It) (c : Cd) (e : Ex)
  | compK (vs : List Nat) (t : Tg) (i : Nat) (c : Cd) (e : Ex)
  | dget (i : Nat) (k d : Ex)
  | dix (i : Nat) (k : Ex)
  | fix (a k : Ex)
  | din (neg : Bool) (i : Nat) (k : Ex)
  | repr (a : Ex)
  | sset (a : Ex)
  | isb (neg b : Bool) (a : Ex)
inductive As where
  | nil
  | cons (a : Ex) (r : As)
inductive It where
  | seq (e : Ex)
  | r1 (a : Ex)
  | r2 (a b : Ex)
  | rdn (a : Ex)
inductive Cd where
  | yes
  | if_ (c : Ex)
inductive Bd where
  | no
  | at_ (e : Ex)
end
mutual
inductive Sm where
  | asg (i : Nat) (e : Ex)
  | asgV (i : Nat) (e : Ex)
  | asgF (i : Nat) (e : Ex)
  | newK (i : Nat) | newT (i : Nat)
  | asgT (is : List Nat) (e : Ex)
  | asgTV (is : List Nat) (e : Ex)
  | par (is : List Nat) (as : As)
  | parV (is : List Nat) (as : As)
  | setI (i : Nat) (k e : Ex)
  | setIV (i : Nat) (k e : Ex)
  | swap (i : Nat) (a b c d : Ex)
  | put (i : Nat) (k e : Ex)
  | putV (i : Nat) (k e : Ex)
  | app (i : Nat) (e : Ex)
  | appV (i : Nat) (e : Ex)
  | insV (i : Nat) (k e : Ex)
  | ext (i : Nat) (e : Ex)
  | pop (t : Tg) (i : Nat)
  | popA (t : Tg) (i : Nat) (k : Ex)
  | frz (i : Nat)
  | ret (e : Ex)
  | retV (e : Ex)
  | retF (e : Ex)
  | retO (i : Nat)
  | ite (c : Ex) (a b : Ss)
  | for_ (t : Tg) (it : It) (b : Ss)
  | forK (t : Tg) (i : Nat) (b : Ss)
  | while_ (fuel : Nat) (c : Ex) (b : Ss)
inductive Ss where
  | nil
  | cons (s : Sm) (r : Ss)
end

/-! ### the evaluator -/
def truthD : D → Option Bool
  | .bool b => some b
  | .int i => some (i != 0)
  | .list xs => some (!xs.isEmpty)
  | .tuple xs => some (!xs.isEmpty)
  | .none => some false
  | _ => none
def setAll : List Nat → List D → EnvD → Option EnvD
  | [], [], ρ => some ρ
  | i :: is, d :: ds, ρ => setAll is ds (ρ.set i (.fz d))
  | _, _, _ => none
def asT : Tg → D → EnvD → Option EnvD
  | .nm i, d, ρ => some (ρ.set i (.fz d))
  | .tup is, .tuple ds, ρ => setAll is ds ρ
  | .tup is, .list ds, ρ => setAll is ds ρ
  | .tup _, _, _ => none
def wipeE (ρ : EnvD) : List Nat → EnvD
  | [] => ρ
  | v :: vs => (wipeE ρ vs).set v .un
def compGo (f : D → Option (Option D)) : List D → Option (List D)
  | [] => some []
  | d :: r => match f d with
    | none => none
    | some none => compGo f r
    | some (some e) => (compGo f r).map (e :: ·)
def cellD (ρ : EnvD) (i : Nat) : Option D :=
  match ρ[i]? with
  | some (.fz d) => some d
  | _ => none
def cellL (ρ : EnvD) (i : Nat) : Option (List D) :=
  match ρ[i]? with
  | some (.ol ds) => some ds
  | _ => none
def keyOf : D → Option Key
  | .int i => some (.inl i)
  | .str s => some (.inr s)
  | _ => none
def keysOf : List D → Option (List Key)
  | [] => some []
  | d :: r => match keyOf d, keysOf r with
    | some k, some ks => some (k :: ks)
    | _, _ => none
def tkeyOf : D → Option (List Key)
  | .tuple ds => keysOf ds
  | _ => none
/-- d[k] of an owned dict: whether k can be a key, and what is there -/
def lookO (c : Cell) (k : D) : Option (Option D) :=
  match c with
  | .ok kvs => (keyOf k).map fun k => valD kvs k
  | .ot kvs => (tkeyOf k).map fun k => valD kvs k
  | _ => none
def keyB : D → D → Bool
  | .int i, .int j => i == j
  | .str i, .str j => i == j
  | .tuple xs, .tuple ys => match keysOf xs, keysOf ys with
    | some a, some b => decide (a = b)
    | _, _ => false
  | _, _ => false
def lookF (kvs : List (D × D)) (k : D) : Option D := (kvs.find? fun p => keyB p.1 k).map (·.2)
def rngD (lo : Int) (n : Nat) : List D := (List.range n).map fun i => .int (lo + (i : Nat))
def rngDn (hi : Int) (n : Nat) : List D := (List.range n).map fun i => .int (hi - (i : Nat))
def notDict : D → Bool
  | .dict _ => false
  | _ => true
def itemsD : D → Option (List D)
  | .list ds => some ds
  | .tuple ds => some ds
  | _ => none
def bndD : D → Option (Option Int)
  | .int i => some (some i)
  | _ => none
def repF (xs : List D) (k : Int) : Option (List D) :=
  if xs.length ≤ sizeLine ∧ -(2 ^ 63) ≤ k ∧ k < 2 ^ 63 ∧ xs.length * k.toNat ≤ sizeLine then some (List.replicate k.toNat xs).flatten else none
def bind2 {α β γ : Type} (a : Option α) (b : Option β) (f : α → β → Option γ) : Option γ := a.bind fun x => b.bind fun y => f x y
def bind3 {α β γ δ : Type} (a : Option α) (b : Option β) (c : Option γ) (f : α → β → γ → Option δ) : Option δ := a.bind fun x => b.bind fun y => c.bind fun z => f x y z
def notD : D → Option D
  | .bool b => some (.bool !b)
  | _ => none
def andD (x : D) (o : Option D) : Option D :=
  match x with
  | .bool true => o
  | .bool false => some (.bool false)
  | _ => none
def orD (x : D) (o : Option D) : Option D :=
  match x with
  | .bool false => o
  | .bool true => some (.bool true)
  | _ => none
def isNoneD : D → Bool
  | .none => true
  | _ => false
def oixD (xs : List D) : D → Option D
  | .int k => atI xs k
  | _ => none
def sliceD (x : D) (lo hi : Option Int) : Option D :=
  match x with
  | .list xs => some (.list (cutD xs lo hi))
  | .tuple xs => some (.tuple (cutD xs lo hi))
  | _ => none
def revF : D → Option (List D)
  | .list xs => some xs.reverse
  | _ => none
def tupD (ds : List D) : Option D := if ds.length ≤ sizeLine then some (.tuple ds) else none
def lenOk (ds : List D) : Option (List D) := if ds.length ≤ sizeLine then some ds else none
def rngOk (ds : List D) : Option (List D) := if ds.length ≤ 2 ^ 24 then some ds else none
def repD (xs : List D) : D → Option (List D)
  | .int k => repF xs k
  | _ => none
def isTyD (t : Ty) (d : D) : Option Bool := if notDict d = true then some (isD t d) else none
def fixD : D → D → Option D
  | .dict kvs, k => lookF kvs k
  | _, _ => none
def keysF : D → Option (List D)
  | .dict kvs => some (kvs.map (·.1))
  | _ => none
def r1F : D → Option (List D)
  | .int n => if -(2 ^ 62) ≤ n ∧ n < 2 ^ 62 then some (rngD 0 n.toNat) else none
  | _ => none
def r2F : D → D → Option (List D)
  | .int m, .int n => if (-(2 ^ 62) ≤ m ∧ m < 2 ^ 62) ∧ (-(2 ^ 62) ≤ n ∧ n < 2 ^ 62) then some (rngD m (n - m).toNat) else none
  | _, _ => none
def isbB (neg b : Bool) : D → Option Bool
  | .bool c => some (xor neg (c == b))
  | _ => none
def rdnF : D → Option (List D)
  | .int n => if -(2 ^ 61) ≤ n ∧ n < 2 ^ 61 then some (rngDn n (n + 1).toNat) else none
  | _ => none
mutual
def evE : Ex → EnvD → Option D
  | .var i, ρ => cellD ρ i
  | .cint i, _ => some (.int i)
  | .cbl b, _ => some (.bool b)
  | .cnon, _ => some .none
  | .cstr s, _ => some (.str s)
  | .glob _ d, _ => some d
  | .bin op a b, ρ => bind2 (evE a ρ) (evE b ρ) (bopD op)
  | .neg a, ρ => (evE a ρ).bind negD
  | .not a, ρ => (evE a ρ).bind notD
  | .and a b, ρ => (evE a ρ).bind fun x => andD x (evE b ρ)
  | .or a b, ρ => (evE a ρ).bind fun x => orD x (evE b ρ)
  | .cmp op a b, ρ => bind2 (evE a ρ) (evE b ρ) fun x y => (copD op x y).map .bool
  | .chain op op' a b c, ρ => bind2 (evE a ρ) (evE b ρ) fun x y => (copD op x y).bind fun k => cond k ((evE c ρ).bind fun z => (copD op' y z).map .bool) (some (.bool false))
  | .isN neg a, ρ => (evE a ρ).map fun d => .bool (xor neg (isNoneD d))
  | .isin neg a b, ρ => bind2 (evE a ρ) (evE b ρ) fun x y => (inD neg x y).map .bool
  | .ix a b, ρ => bind2 (evE a ρ) (evE b ρ) ixD
  | .oix i b, ρ => bind2 (cellL ρ i) (evE b ρ) oixD
  | .slice a lo hi, ρ => bind3 (evE a ρ) (evB lo ρ) (evB hi ρ) sliceD
  | .rev a, ρ => ((evE a ρ).bind revF).map .list
  | .tup as, ρ => (evA as ρ).bind tupD
  | .lst as, ρ => ((evA as ρ).bind lenOk).map .list
  | .rep as b, ρ => (bind2 (evA as ρ) (evE b ρ) repD).map .list
  | .call _ f as, ρ => (evA as ρ).bind f
  | .callF _ f as, ρ => ((evA as ρ).bind f).map .list
  | .bfn f as, ρ => (evA as ρ).bind (bfnD f)
  | .int a, ρ => (evE a ρ).bind fun d => intD [d]
  | .list a, ρ => ((evE a ρ).bind fun d => listF [d]).map .list
  | .tuple a, ρ => (evE a ρ).bind fun d => tupleD [d]
  | .sorted a, ρ => ((evE a ρ).bind fun d => sortF [d]).map .list
  | .lrng r, ρ => ((evI r ρ).bind rngOk).map .list
  | .is t a, ρ => ((evE a ρ).bind (isTyD t)).map .bool
  | .comp vs t it c e, ρ => (((evI it ρ).bind lenOk).bind (compGo fun d => (asT t d (wipeE ρ vs)).bind fun ρ1 => (evC c ρ1).bind fun k => cond k ((evE e ρ1).map some) (some none))).map .list
  | .compK vs t i c e, ρ => ((((cellD ρ i).bind keysF).bind lenOk).bind (compGo fun d => (asT t d (wipeE ρ vs)).bind fun ρ1 => (evC c ρ1).bind fun k => cond k ((evE e ρ1).map some) (some none))).map .list
  | .dget i k d, ρ => bind3 ρ[i]? (evE k ρ) (evE d ρ) fun c kd dd => (lookO c kd).map fun o => o.getD dd
  | .dix i k, ρ => bind2 ρ[i]? (evE k ρ) fun c kd => (lookO c kd).bind id
  | .fix a k, ρ => bind2 (evE a ρ) (evE k ρ) fixD
  | .din neg i k, ρ => bind2 ρ[i]? (evE k ρ) fun c kd => (lookO c kd).map fun o => .bool (xor neg o.isSome)
  | .repr a, ρ => (evE a ρ).bind fun d => reprD [d]
  | .sset a, ρ => ((evE a ρ).bind fun d => ssetF [d]).map .list
  | .isb neg b a, ρ => ((evE a ρ).bind (isbB neg b)).map .bool
def evT : Ex → EnvD → Option Bool
  | .and a b, ρ => (evT a ρ).bind fun k => cond k (evT b ρ) (some false)
  | .or a b, ρ => (evT a ρ).bind fun k => cond k (some true) (evT b ρ)
  | .not a, ρ => (evT a ρ).map fun b => !b
  | .var i, ρ => (cellD ρ i).bind truthD
  | .cmp op a b, ρ => bind2 (evE a ρ) (evE b ρ) (copD op)
  | .chain op op' a b c, ρ => bind2 (evE a ρ) (evE b ρ) fun x y => (copD op x y).bind fun k => cond k ((evE c ρ).bind fun z => copD op' y z) (some false)
  | .isN neg a, ρ => (evE a ρ).map fun d => xor neg (isNoneD d)
  | .isin neg a b, ρ => bind2 (evE a ρ) (evE b ρ) (inD neg)
  | .din neg i k, ρ => bind2 ρ[i]? (evE k ρ) fun c kd => (lookO c kd).map fun o => xor neg o.isSome
  | .call _ f as, ρ => ((evA as ρ).bind f).bind truthD
  | .ix a b, ρ => (bind2 (evE a ρ) (evE b ρ) ixD).bind truthD
  | .is t a, ρ => (evE a ρ).bind (isTyD t)
  | .isb neg b a, ρ => (evE a ρ).bind (isbB neg b)
  | _, _ => none
def evA : As → EnvD → Option (List D)
  | .nil, _ => some []
  | .cons a r, ρ => bind2 (evE a ρ) (evA r ρ) fun d ds => some (d :: ds)
/-- ints of ranges: what is owned is seen -/
def evI : It → EnvD → Option (List D)
  | .seq e, ρ => (evE e ρ).bind itemsD
  | .r1 a, ρ => (evE a (viewE ρ)).bind r1F
  | .r2 a b, ρ => bind2 (evE a (viewE ρ)) (evE b (viewE ρ)) r2F
  | .rdn a, ρ => (evE a (viewE ρ)).bind rdnF
def evC : Cd → EnvD → Option Bool
  | .yes, _ => some true
  | .if_ c, ρ => evT c (viewE ρ)
def evB : Bd → EnvD → Option (Option Int)
  | .no, _ => some none
  | .at_ e, ρ => (evE e ρ).bind bndD
end
def sliceF (x : D) (lo hi : Option Int) : Option (List D) :=
  match x with
  | .list xs => some (cutD xs lo hi)
  | _ => none
/-- what is made new -/
def evF : Ex → EnvD → Option (List D)
  | .bin op a b, ρ => bind2 (evE a ρ) (evE b ρ) (bopF op)
  | .slice a lo hi, ρ => bind3 (evE a ρ) (evB lo ρ) (evB hi ρ) sliceF
  | .rev a, ρ => (evE a ρ).bind revF
  | .lst as, ρ => (evA as ρ).bind lenOk
  | .rep as b, ρ => bind2 (evA as ρ) (evE b ρ) repD
  | .callF _ f as, ρ => (evA as ρ).bind f
  | .list a, ρ => (evE a ρ).bind fun d => listF [d]
  | .sorted a, ρ => (evE a ρ).bind fun d => sortF [d]
  | .sset a, ρ => (evE a ρ).bind fun d => ssetF [d]
  | .lrng r, ρ => (evI r ρ).bind rngOk
  | .comp vs t it c e, ρ => ((evI it ρ).bind lenOk).bind (compGo fun d => (asT t d (wipeE ρ vs)).bind fun ρ1 => (evC c ρ1).bind fun k => cond k ((evE e ρ1).map some) (some none))
  | .compK vs t i c e, ρ => (((cellD ρ i).bind keysF).bind lenOk).bind (compGo fun d => (asT t d (wipeE ρ vs)).bind fun ρ1 => (evC c ρ1).bind fun k => cond k ((evE e ρ1).map some) (some none))
  | _, _ => none

def flatD (d : D) : Option D := if flat d = true then some d else none
def flatsD (ds : List D) : Option (List D) := if ds.all flat = true then some ds else none
def forGo (as : D → EnvD → Option EnvD) (body : EnvD → Option Out) : List D → EnvD → Option Out
  | [], ρ => some (.next ρ)
  | d :: r, ρ => (as d ρ).bind fun ρ1 => (body ρ1).bind fun o => match o with
    | .next ρ2 => forGo as body r ρ2
    | o => some o
def whileGo (c : EnvD → Option Bool) (body : EnvD → Option Out) : Nat → EnvD → Option Out
  | 0, _ => none
  | n + 1, ρ => (c ρ).bind fun k => cond k ((body ρ).bind fun o => match o with
      | .next ρ2 => whileGo c body n ρ2
      | o => some o) (some (.next ρ))
def putO (c : Cell) (k e : D) : Option Cell :=
  match c with
  | .ok kvs => (keyOf k).bind fun k => if kvs.length < sizeLine then some (.ok (putD kvs k e)) else none
  | .ot kvs => (tkeyOf k).bind fun k => if kvs.length < sizeLine then some (.ot (putD kvs k e)) else none
  | _ => none
def setL (xs : List D) (k : D) (e : D) : Option (List D) :=
  match k with
  | .int i => (ixN xs.length i).map fun j => xs.set j e
  | _ => none
def appL (xs : List D) (d : D) : Option (List D) := if xs.length < sizeLine then some (xs ++ [d]) else none
def insL (xs : List D) (k : D) (d : D) : Option (List D) :=
  match k with
  | .int k => if xs.length < sizeLine ∧ 0 ≤ k ∧ k < 2 ^ 63 then some (xs.take k.toNat ++ [d] ++ xs.drop k.toNat) else none
  | _ => none
def extL (xs : List D) : D → Option (List D)
  | .list ys => if xs.length + ys.length ≤ sizeLine then some (xs ++ ys) else none
  | _ => none
def popAt (xs : List D) : D → Option (D × List D)
  | .int k => if -(2 ^ 63) ≤ k ∧ k < 2 ^ 63 then (seqIndex? k xs.length).bind fun j => xs[j]?.map fun d => (d, xs.eraseIdx j) else none
  | _ => none
def popL (xs : List D) : Option (D × List D) := xs[xs.length - 1]?.map fun d => (d, xs.dropLast)
def frzC (c : Cell) : Option Cell := if c.isOwn = true then some c.view else none
def nx (o : Option EnvD) : Option Out := o.map .next
mutual
def evS : Sm → EnvD → Option Out
  | .asg i e, ρ => nx ((evE e ρ).map fun d => ρ.set i (.fz d))
  | .asgV i e, ρ => nx (((evE e (viewE ρ)).bind flatD).map fun d => ρ.set i (.fz d))
  | .asgF i e, ρ => nx ((evF e ρ).map fun ds => ρ.set i (.ol ds))
  | .newK i, ρ => nx (some (ρ.set i (.ok [])))
  | .newT i, ρ => nx (some (ρ.set i (.ot [])))
  | .asgT is e, ρ => nx ((evE e ρ).bind fun d => asT (.tup is) d ρ)
  | .asgTV is e, ρ => nx (((evE e (viewE ρ)).bind itemsD).bind fun ds => (flatsD ds).bind fun ds => setAll is ds ρ)
  | .par is as, ρ => nx ((evA as ρ).bind fun ds => setAll is ds ρ)
  | .parV is as, ρ => nx (((evA as (viewE ρ)).bind flatsD).bind fun ds => setAll is ds ρ)
  | .setI i k e, ρ => nx ((bind3 (cellL ρ i) (evE k (viewE ρ)) (evE e ρ) setL).map fun ys => ρ.set i (.ol ys))
  | .setIV i k e, ρ => nx ((bind3 (cellL ρ i) (evE k (viewE ρ)) ((evE e (viewE ρ)).bind flatD) setL).map fun ys => ρ.set i (.ol ys))
  | .swap i a b c d, ρ => nx (bind2 ((evE c (viewE ρ)).bind flatD) ((evE d (viewE ρ)).bind flatD) fun x y => (bind3 (cellL ρ i) (evE a (viewE ρ)) (some x) setL).bind fun ys => (bind3 (some ys) (evE b (viewE (ρ.set i (.ol ys)))) (some y) setL).map fun zs => (ρ.set i (.ol ys)).set i (.ol zs))
  | .put i k e, ρ => nx ((bind3 ρ[i]? (evE k ρ) (evE e ρ) putO).map fun c => ρ.set i c)
  | .putV i k e, ρ => nx ((bind3 ρ[i]? (evE k ρ) ((evE e (viewE ρ)).bind flatD) putO).map fun c => ρ.set i c)
  | .app i e, ρ => nx ((bind2 (cellL ρ i) (evE e ρ) appL).map fun ys => ρ.set i (.ol ys))
  | .appV i e, ρ => nx ((bind2 (cellL ρ i) ((evE e (viewE ρ)).bind flatD) appL).map fun ys => ρ.set i (.ol ys))
  | .insV i k e, ρ => nx ((bind3 (cellL ρ i) (evE k (viewE ρ)) ((evE e (viewE ρ)).bind flatD) insL).map fun ys => ρ.set i (.ol ys))
  | .ext _ _, _ => none
  | .pop t i, ρ => nx (((cellL ρ i).bind popL).bind fun p => asT t p.1 (ρ.set i (.ol p.2)))
  | .popA t i k, ρ => nx ((bind2 (cellL ρ i) (evE k (viewE ρ)) popAt).bind fun p => asT t p.1 (ρ.set i (.ol p.2)))
  | .frz i, ρ => nx ((ρ[i]?.bind frzC).map fun c => ρ.set i c)
  | .ret e, ρ => (evE e ρ).map .ret
  | .retV e, ρ => ((evE e (viewE ρ)).bind flatD).map .ret
  | .retF e, ρ => (evF e ρ).map .retF
  | .retO i, ρ => (cellL ρ i).map .retF
  | .ite c a b, ρ => (evT c (viewE ρ)).bind fun k => cond k (evSs a ρ) (evSs b ρ)
  | .for_ t it b, ρ => (evI it ρ).bind fun ds => forGo (asT t) (evSs b) ds ρ
  | .forK t i b, ρ => ((cellD ρ i).bind keysF).bind fun ds => forGo (asT t) (evSs b) ds ρ
  | .while_ fuel c b, ρ => whileGo (fun ρ => evT c (viewE ρ)) (evSs b) fuel ρ
def evSs : Ss → EnvD → Option Out
  | .nil, ρ => some (.next ρ)
  | .cons s r, ρ => (evS s ρ).bind fun o => match o with
    | .next ρ1 => evSs r ρ1
    | o => some o
end
/-- a def: n slots -/
def start0 (n : Nat) (args : List D) : EnvD := args.map .fz ++ List.replicate (n - args.length) .un
def outD : Out → Option D
  | .ret d => some d
  | .next _ => some .none
  | _ => none
def outF : Out → Option (List D)
  | .retF d => some d
  | _ => none
def runD (k n : Nat) (b : Ss) (args : List D) : Option D := if args.length = k then (evSs b (start0 n args)).bind outD else none
def runF (k n : Nat) (b : Ss) (args : List D) : Option (List D) := if args.length = k then (evSs b (start0 n args)).bind outF else none

/-! ### the look at the text -/
structure Ctx where
  N : List Str
  sc : Scope
  fn : Str → Bool
def visB (Γ : Ctx) (x : Str) : Bool := match Γ.sc.names.lookup x with
  | some .local | some .cell | some .free => true
  | _ => false
def glB (Γ : Ctx) (x : Str) : Bool := match Γ.sc.names.lookup x with
  | some .globalImplicit => !(x == ("__debug__" : Str)) && !(x == ("__name__" : Str))
  | _ => false
def locB (Γ : Ctx) (x : Str) : Bool := match Γ.sc.names.lookup x with
  | some .local => true
  | some .cell => Γ.fn x
  | _ => false
def nmB (Γ : Ctx) (i : Nat) (x : Str) : Bool := decide (Γ.N[i]? = some x)
def rdB (Γ : Ctx) (i : Nat) : Expr → Bool
  | .Name x _ => nmB Γ i x && visB Γ x && !(x == ("__debug__" : Str)) && !(x == ("__classdict__" : Str))
  | _ => false
def wrB (Γ : Ctx) (i : Nat) : Expr → Bool
  | .Name x _ => nmB Γ i x && locB Γ x
  | _ => false
def wrsB (Γ : Ctx) : List Nat → List Expr → Bool
  | [], [] => true
  | i :: is, e :: es => wrB Γ i e && wrsB Γ is es
  | _, _ => false
def gnB (Γ : Ctx) (x : Str) : Expr → Bool
  | .Name y _ => (y == x) && glB Γ y
  | _ => false
def noStar : Expr → Bool
  | .Starred _ _ => false
  | _ => true
def noSlice : Expr → Bool
  | .Slice _ _ _ _ => false
  | _ => true
def noSet : Expr → Bool
  | .Set _ _ _ => false
  | _ => true
def noComp : Expr → Bool
  | .ListComp _ _ _ _ | .SetComp _ _ _ _ | .DictComp _ _ _ _ _ => false
  | _ => true
def tgB (Γ : Ctx) : Tg → Expr → Bool
  | .nm i, e => wrB Γ i e
  | .tup is, .Tuple es _ _ => wrsB Γ is es
  | _, _ => false
def relab (scope sc : Scope) : Scope :=
  { scope with names := scope.names.map fun (n, k) => if (k == .free && sc.kind == .function && sc.names.lookup n == some .cell) then (n, .cell) else (n, k) }
def inner (Γ : Ctx) (scope : Scope) : Ctx := ⟨Γ.N, relab scope Γ.sc, fun x => scope.names.lookup x == some .cell⟩
def ownOf (N : List Str) (vs : List Nat) : List (Str × Nat) := vs.map fun i => (N.getD i default, i)
def tgIn (vs : List Nat) : Tg → Bool
  | .nm i => vs.contains i
  | .tup is => is.all vs.contains
/-! shapes -/
def isUp : It → Bool
  | .r1 _ => true
  | .r2 _ _ => true
  | _ => false
def asConst : Expr → Option Const
  | .Constant c _ _ => some c
  | _ => none
def asBin : Expr → Option (Expr × Operator × Expr)
  | .BinOp a o b _ => some (a, o, b)
  | _ => none
def asUn : Expr → Option (UnaryOp × Expr)
  | .UnaryOp o a _ => some (o, a)
  | _ => none
def asBool : Expr → Option (BoolOp × Expr × Expr × List Expr × Pos)
  | .BoolOp o (a :: b :: r) p => some (o, a, b, r, p)
  | _ => none
def asCmp1 : Expr → Option (Expr × CmpOp × Expr)
  | .Compare a [o] [b] _ => some (a, o, b)
  | _ => none
def asCmp2 : Expr → Option (Expr × CmpOp × CmpOp × Expr × Expr)
  | .Compare a [o, o'] [b, c] _ => some (a, o, o', b, c)
  | _ => none
def asSub : Expr → Option (Expr × Expr)
  | .Subscript a b _ => some (a, b)
  | _ => none
def asTup : Expr → Option (List Expr)
  | .Tuple es _ _ => some es
  | _ => none
def asLst : Expr → Option (List Expr)
  | .List es _ => some es
  | _ => none
def asCall : Expr → Option (Expr × Expr × List Expr)
  | .Call f (e :: es) [] _ => some (f, e, es)
  | _ => none
def asCall1 : Expr → Option (Expr × Expr)
  | .Call f [e] [] _ => some (f, e)
  | _ => none
def asCall2 : Expr → Option (Expr × Expr × Expr)
  | .Call f [e, e'] [] _ => some (f, e, e')
  | _ => none
def asCall3 : Expr → Option (Expr × Expr × Expr × Expr)
  | .Call f [e, e', e''] [] _ => some (f, e, e', e'')
  | _ => none
def asSlice : Expr → Option (Option Expr × Option Expr)
  | .Slice lo hi none _ => some (lo, hi)
  | _ => none
def isM1 : Expr → Bool
  | .UnaryOp .USub (.Constant (.int j) _ _) _ => j == 1
  | _ => false
def isRevS : Expr → Bool
  | .Slice none none (some e) _ => isM1 e
  | _ => false
def isNoneE : Expr → Bool
  | .Constant .none _ _ => true
  | _ => false
def asComp : Expr → Option (Expr × Expr × Expr × List Expr × Scope)
  | .ListComp elt [⟨tg, iter, ifs, as⟩] scope _ => if as == 0 then some (elt, tg, iter, ifs, scope) else none
  | _ => none
/-- o.m() | o.m(a) | o.m(a, b), on one line -/
def asMe0 : Expr → Option (Expr × Str)
  | .Call (.Attribute o m apos) [] [] cpos => if apos.endLine == cpos.line then some (o, m) else none
  | _ => none
def asMe1 : Expr → Option (Expr × Str × Expr)
  | .Call (.Attribute o m apos) [a] [] cpos => if apos.endLine == cpos.line then some (o, m, a) else none
  | _ => none
def asMe2 : Expr → Option (Expr × Str × Expr × Expr)
  | .Call (.Attribute o m apos) [a, b] [] cpos => if apos.endLine == cpos.line then some (o, m, a, b) else none
  | _ => none
def asNm : Expr → Option Str
  | .Name x _ => some x
  | _ => none
mutual
def mE (Γ : Ctx) : Ex → Expr → Bool
  | .var i, e => rdB Γ i e
  | .cint i, e => decide (asConst e = some (.int i))
  | .cbl b, e => decide (asConst e = some (.bool b))
  | .cnon, e => decide (asConst e = some .none)
  | .cstr s, e => decide (asConst e = some (.str s))
  | .glob x _, e => gnB Γ x e
  | .bin op a b, e => match asBin e with
    | some (ea, o, eb) => (op.py == o) && mE Γ a ea && mE Γ b eb
    | none => false
  | .neg a, e => match asUn e with
    | some (o, ea) => (o == .USub) && mE Γ a ea
    | none => false
  | .not a, e => match asUn e with
    | some (o, ea) => (o == .Not) && mE Γ a ea
    | none => false
  | .and a b, e => match asBool e with
    | some (o, e1, e2, rest, pos) => (o == .And) && mE Γ a e1 && cond rest.isEmpty (mE Γ b e2) (mE Γ b (.BoolOp .And (e2 :: rest) pos))
    | none => false
  | .or a b, e => match asBool e with
    | some (o, e1, e2, rest, pos) => (o == .Or) && mE Γ a e1 && cond rest.isEmpty (mE Γ b e2) (mE Γ b (.BoolOp .Or (e2 :: rest) pos))
    | none => false
  | .cmp op a b, e => match asCmp1 e with
    | some (ea, o, eb) => (op.py == o) && mE Γ a ea && mE Γ b eb
    | none => false
  | .chain op op' a b c, e => match asCmp2 e with
    | some (ea, o, o', eb, ec) => (op.py == o) && (op'.py == o') && mE Γ a ea && mE Γ b eb && mE Γ c ec
    | none => false
  | .isN neg a, e => match asCmp1 e with
    | some (ea, o, eb) => (o == (if neg then .IsNot else .Is)) && mE Γ a ea && isNoneE eb
    | none => false
  | .isin neg a b, e => match asCmp1 e with
    | some (ea, o, eb) => (o == (if neg then .NotIn else .In)) && mE Γ a ea && mE Γ b eb && !(behindInMarks o eb)
    | none => false
  | .ix a b, e => match asSub e with
    | some (ea, eb) => noSlice eb && mE Γ a ea && mE Γ b eb
    | none => false
  | .oix i b, e => match asSub e with
    | some (ea, eb) => noSlice eb && rdB Γ i ea && mE Γ b eb
    | none => false
  | .slice a lo hi, e => match asSub e with
    | some (ea, es) => mE Γ a ea && (match asSlice es with
      | some (elo, ehi) => mB Γ lo elo && mB Γ hi ehi
      | none => false)
    | none => false
  | .rev a, e => match asSub e with
    | some (ea, es) => mE Γ a ea && isRevS es
    | none => false
  | .tup as, e => match asTup e with
    | some es => mA Γ as es
    | none => false
  | .lst as, e => match asLst e with
    | some es => mA Γ as es
    | none => false
  | .rep as b, e => match asBin e with
    | some (ea, o, eb) => (o == .Mult) && mE Γ b eb && (match asLst ea with
      | some es => mA Γ as es
      | none => false)
    | none => false
  | .call x _ as, e => match asCall e with
    | some (f, e1, es) => gnB Γ x f && mA Γ as (e1 :: es)
    | none => false
  | .callF x _ as, e => match asCall e with
    | some (f, e1, es) => gnB Γ x f && mA Γ as (e1 :: es)
    | none => false
  | .bfn g as, e => match asCall e with
    | some (f, e1, es) => gnB Γ g.py f && mA Γ as (e1 :: es)
    | none => false
  | .int a, e => match asCall1 e with
    | some (g, e1) => gnB Γ "int" g && noStar e1 && mE Γ a e1
    | none => false
  | .list a, e => match asCall1 e with
    | some (g, e1) => gnB Γ "list" g && noStar e1 && mE Γ a e1
    | none => false
  | .tuple a, e => match asCall1 e with
    | some (g, e1) => gnB Γ "tuple" g && noStar e1 && mE Γ a e1
    | none => false
  | .sorted a, e => match asCall1 e with
    | some (g, e1) => gnB Γ "sorted" g && noStar e1 && mE Γ a e1
    | none => false
  | .lrng r, e => match asCall1 e with
    | some (g, e1) => gnB Γ "list" g && noStar e1 && mI Γ r e1 && isUp r
    | none => false
  | .is t a, e => match asCall2 e with
    | some (g, e1, e2) => gnB Γ "isinstance" g && noStar e1 && mE Γ a e1 && (match asNm e2 with
      | some y => (y == t.nm) && glB Γ y
      | none => false)
    | none => false
  | .comp vs t it c el, e => match asComp e with
    | some (elt, tg, iter, ifs, scope) => blkC Γ.N Γ.sc scope (ownOf Γ.N vs) && tgIn vs t && noSet iter && mI Γ it iter && tgB (inner Γ scope) t tg && mC (inner Γ scope) c ifs && mE (inner Γ scope) el elt
    | none => false
  | .compK vs t i c el, e => match asComp e with
    | some (elt, tg, iter, ifs, scope) => blkC Γ.N Γ.sc scope (ownOf Γ.N vs) && tgIn vs t && noSet iter && rdB Γ i iter && tgB (inner Γ scope) t tg && mC (inner Γ scope) c ifs && mE (inner Γ scope) el elt
    | none => false
  | .dget i k d, e => match asMe2 e with
    | some (o, m, ek, ed) => (m == ("get" : Str)) && rdB Γ i o && noStar ek && noStar ed && mE Γ k ek && mE Γ d ed
    | none => false
  | .dix i k, e => match asSub e with
    | some (ea, eb) => noSlice eb && rdB Γ i ea && mE Γ k eb
    | none => false
  | .fix a k, e => match asSub e with
    | some (ea, eb) => noSlice eb && mE Γ a ea && mE Γ k eb
    | none => false
  | .din neg i k, e => match asCmp1 e with
    | some (ea, o, eb) => (o == (if neg then .NotIn else .In)) && mE Γ k ea && rdB Γ i eb && !(behindInMarks o eb)
    | none => false
  | .repr a, e => match asCall1 e with
    | some (g, e1) => gnB Γ "repr" g && noStar e1 && mE Γ a e1
    | none => false
  | .sset a, e => match asCall1 e with
    | some (g, e1) => gnB Γ "sorted" g && (match asCall1 e1 with
      | some (g2, e2) => gnB Γ "set" g2 && noStar e2 && mE Γ a e2
      | none => false)
    | none => false
  | .isb neg b a, e => match asCmp1 e with
    | some (ea, o, eb) => (o == (if neg then .IsNot else .Is)) && mE Γ a ea && decide (asConst eb = some (.bool b))
    | none => false
def mA (Γ : Ctx) : As → List Expr → Bool
  | .nil, es => es.isEmpty
  | .cons a r, es => match es.head? with
    | some e => noStar e && mE Γ a e && mA Γ r es.tail
    | none => false
def mI (Γ : Ctx) : It → Expr → Bool
  | .seq a, e => mE Γ a e
  | .r1 a, e => match asCall1 e with
    | some (g, e1) => gnB Γ "range" g && noStar e1 && mE Γ a e1
    | none => false
  | .r2 a b, e => match asCall2 e with
    | some (g, e1, e2) => gnB Γ "range" g && noStar e1 && noStar e2 && mE Γ a e1 && mE Γ b e2
    | none => false
  | .rdn a, e => match asCall3 e with
    | some (g, e1, e2, e3) => gnB Γ "range" g && noStar e1 && mE Γ a e1 && isM1 e2 && isM1 e3
    | none => false
def mC (Γ : Ctx) : Cd → List Expr → Bool
  | .yes, es => es.isEmpty
  | .if_ c, es => match es.head? with
    | some e => es.tail.isEmpty && mE Γ c e
    | none => false
def mB (Γ : Ctx) : Bd → Option Expr → Bool
  | .no, o => o.isNone
  | .at_ a, o => match o with
    | some e => mE Γ a e
    | none => false
end
def isFrz : Sm → Bool
  | .frz _ => true
  | _ => false
/-- plain local names on one line -/
def namesOf (Γ : Ctx) (l : Nat) : List Expr → Option (List Str)
  | [] => some []
  | .Name id pos :: r => if (Γ.sc.names.lookup id == some .local && pos.line == l) = true then (namesOf Γ l r).map (id :: ·) else none
  | _ :: _ => none
/-- a, b = x, y: stored from the right, as plain local names are -/
def parB (Γ : Ctx) (ts vs : List Expr) : Bool :=
  (ts.length == 2 || ts.length == 3) && (vs.length == ts.length) && vs.all noStar &&
  (match namesOf Γ ((ts.head?.map (·.pos.line)).getD 0) ts with
    | some ns => ns.eraseDups.length == ns.length
    | none => false) && !(vs.all (foldedForSure 8)) && !(vs.all (constantsAlone 8))
def asAsg : Stmt → Option (Expr × Expr)
  | .Assign [t] v _ => some (t, v)
  | _ => none
def asEx : Stmt → Option Expr
  | .Expr e _ => some e
  | _ => none
def asRet : Stmt → Option Expr
  | .Return (some e) _ => some e
  | _ => none
def asIf : Stmt → Option (Expr × List Stmt × List Stmt)
  | .If t p q _ => some (t, p, q)
  | _ => none
def asFor : Stmt → Option (Expr × Expr × List Stmt)
  | .For tg iter body [] _ => some (tg, iter, body)
  | _ => none
def asWh : Stmt → Option (Expr × List Stmt)
  | .While t body [] _ => some (t, body)
  | _ => none
def isNewD : Expr → Bool
  | .Dict [] [] _ => true
  | _ => false
def isTupE : Expr → Bool
  | .Tuple _ _ _ => true
  | _ => false
def isCompX : Ex → Bool
  | .comp _ _ _ _ _ => true
  | .compK _ _ _ _ _ => true
  | _ => false
mutual
def mS (Γ : Ctx) : Sm → Stmt → Bool
  | .asg i e, s => match asAsg s with
    | some (t, v) => wrB Γ i t && mE Γ e v && (noComp v || isCompX e)
    | none => false
  | .asgV i e, s => match asAsg s with
    | some (t, v) => wrB Γ i t && mE Γ e v && (noComp v || isCompX e)
    | none => false
  | .asgF i e, s => match asAsg s with
    | some (t, v) => wrB Γ i t && mE Γ e v && (noComp v || isCompX e)
    | none => false
  | .newK i, s => match asAsg s with
    | some (t, v) => wrB Γ i t && isNewD v
    | none => false
  | .newT i, s => match asAsg s with
    | some (t, v) => wrB Γ i t && isNewD v
    | none => false
  | .asgT is e, s => match asAsg s with
    | some (t, v) => tgB Γ (.tup is) t && mE Γ e v && noComp v && !(isTupE v)
    | none => false
  | .asgTV is e, s => match asAsg s with
    | some (t, v) => tgB Γ (.tup is) t && mE Γ e v && noComp v && !(isTupE v)
    | none => false
  | .par is as, s => match asAsg s with
    | some (t, v) => (match asTup t, asTup v with
      | some ts, some vs => wrsB Γ is ts && mA Γ as vs && parB Γ ts vs
      | _, _ => false)
    | none => false
  | .parV is as, s => match asAsg s with
    | some (t, v) => (match asTup t, asTup v with
      | some ts, some vs => wrsB Γ is ts && mA Γ as vs && parB Γ ts vs
      | _, _ => false)
    | none => false
  | .setI i k e, s => match asAsg s with
    | some (t, v) => (match asSub t with
      | some (o, j) => rdB Γ i o && mE Γ k j && mE Γ e v && noComp v && noSlice j
      | none => false)
    | none => false
  | .setIV i k e, s => match asAsg s with
    | some (t, v) => (match asSub t with
      | some (o, j) => rdB Γ i o && mE Γ k j && mE Γ e v && noComp v && noSlice j
      | none => false)
    | none => false
  | .swap i a b c d, s => match asAsg s with
    | some (t, v) => (match asTup t, asTup v with
      | some [t1, t2], some [v1, v2] => (match asSub t1, asSub t2 with
        | some (o, ja), some (o', jb) => rdB Γ i o && rdB Γ i o' && mE Γ a ja && mE Γ b jb && mE Γ c v1 && mE Γ d v2 && noStar v1 && noStar v2 && noSlice ja && noSlice jb
        | _, _ => false)
      | _, _ => false)
    | none => false
  | .put i k e, s => match asAsg s with
    | some (t, v) => (match asSub t with
      | some (o, j) => rdB Γ i o && mE Γ k j && mE Γ e v && noComp v
      | none => false)
    | none => false
  | .putV i k e, s => match asAsg s with
    | some (t, v) => (match asSub t with
      | some (o, j) => rdB Γ i o && mE Γ k j && mE Γ e v && noComp v
      | none => false)
    | none => false
  | .app i e, s => match (asEx s).bind asMe1 with
    | some (o, m, v) => (m == ("append" : Str)) && rdB Γ i o && noStar v && mE Γ e v
    | none => false
  | .appV i e, s => match (asEx s).bind asMe1 with
    | some (o, m, v) => (m == ("append" : Str)) && rdB Γ i o && noStar v && mE Γ e v
    | none => false
  | .insV i k e, s => match (asEx s).bind asMe2 with
    | some (o, m, j, v) => (m == ("insert" : Str)) && rdB Γ i o && noStar j && noStar v && mE Γ k j && mE Γ e v
    | none => false
  | .ext i e, s => match (asEx s).bind asMe1 with
    | some (o, m, v) => (m == ("extend" : Str)) && rdB Γ i o && noStar v && mE Γ e v
    | none => false
  | .pop t i, s => match asAsg s with
    | some (tg, v) => (match asMe0 v with
      | some (o, m) => (m == ("pop" : Str)) && rdB Γ i o && tgB Γ t tg
      | none => false)
    | none => false
  | .popA t i k, s => match asAsg s with
    | some (tg, v) => (match asMe1 v with
      | some (o, m, j) => (m == ("pop" : Str)) && rdB Γ i o && noStar j && mE Γ k j && tgB Γ t tg
      | none => false)
    | none => false
  | .frz _, _ => false
  | .ret e, s => match asRet s with
    | some v => mE Γ e v
    | none => false
  | .retV e, s => match asRet s with
    | some v => mE Γ e v
    | none => false
  | .retF e, s => match asRet s with
    | some v => mE Γ e v
    | none => false
  | .retO i, s => match asRet s with
    | some v => rdB Γ i v
    | none => false
  | .ite c a b, s => match asIf s with
    | some (t, p, q) => mE Γ c t && mSs Γ a p && mSs Γ b q
    | none => false
  | .for_ t it b, s => match asFor s with
    | some (tg, iter, body) => noSet iter && tgB Γ t tg && mI Γ it iter && mSs Γ b body
    | none => false
  | .forK t i b, s => match asFor s with
    | some (tg, iter, body) => noSet iter && tgB Γ t tg && rdB Γ i iter && mSs Γ b body
    | none => false
  | .while_ _ c b, s => match asWh s with
    | some (t, body) => mE Γ c t && mSs Γ b body
    | none => false
def mSs (Γ : Ctx) : Ss → List Stmt → Bool
  | .nil, sts => sts.isEmpty
  | .cons s r, sts => cond (isFrz s) (mSs Γ r sts) (match sts.head? with
    | some st => mS Γ s st && mSs Γ r sts.tail
    | none => false)
end
/-! ### what the text calls -/
/-- the program, the world, the written part, the module's names, the base, the level -/
structure Md where
  P : Program
  w : World
  K : PySem.W.Frag
  mg : Str → Option Value
  base : Heap
  k : Nat
def spP (f : List D → Option D) : Sp := fun vs H Q _ => ∃ O ds d, OOk O H ∧ RpA (hide O H) vs ds ∧ f ds = some d ∧ ∀ v H', Same H H' → Rp (hide O H') v d → Q v H'
def spF (f : List D → Option (List D)) : Sp := fun vs H Q _ => ∃ O ds es, OOk O H ∧ RpA (hide O H) vs ds ∧ f ds = some es ∧
  ∀ p xs H', H p = none → Same H H' → H' p = some (.lst xs) → RpA (hide (addO O p) H') xs es → Q (.ref p) H'
def FnAt (M : Md) (x : Str) (sp : Sp) : Prop := ∃ f fd ps, M.mg x = some (.ref f) ∧ PySem.W.keepIn M.K (.ref f) = true ∧ GnOk M.P M.w M.K M.mg M.base M.k f fd ps sp ∧ Binds M.K fd ps []
def GlAt (M : Md) (x : Str) (d : D) : Prop := ∃ u v, M.mg x = some u ∧ RelV v u ∧ ∀ H, Rp H v d
mutual
def fE (M : Md) : Ex → Prop
  | .glob x d => GlAt M x d
  | .bin _ a b => fE M a ∧ fE M b
  | .neg a => fE M a
  | .not a => fE M a
  | .and a b => fE M a ∧ fE M b
  | .or a b => fE M a ∧ fE M b
  | .cmp _ a b => fE M a ∧ fE M b
  | .chain _ _ a b c => fE M a ∧ fE M b ∧ fE M c
  | .isN _ a => fE M a
  | .isin _ a b => fE M a ∧ fE M b
  | .ix a b => fE M a ∧ fE M b
  | .oix _ b => fE M b
  | .slice a lo hi => fE M a ∧ fB M lo ∧ fB M hi
  | .rev a => fE M a
  | .tup as => fA M as
  | .lst as => fA M as
  | .rep as b => fA M as ∧ fE M b
  | .call x f as => FnAt M x (spP f) ∧ fA M as
  | .callF x f as => FnAt M x (spF f) ∧ fA M as
  | .bfn _ as => fA M as
  | .int a => fE M a
  | .list a => fE M a
  | .tuple a => fE M a
  | .sorted a => fE M a
  | .lrng r => fI M r
  | .is _ a => fE M a
  | .comp _ _ it c e => fI M it ∧ fC M c ∧ fE M e
  | .compK _ _ _ c e => fC M c ∧ fE M e
  | .dget _ k d => fE M k ∧ fE M d
  | .dix _ k => fE M k
  | .fix a k => fE M a ∧ fE M k
  | .din _ _ k => fE M k
  | .repr a => fE M a
  | .sset a => fE M a
  | .isb _ _ a => fE M a
  | .var _ => True
  | .cint _ => True
  | .cbl _ => True
  | .cnon => True
  | .cstr _ => True
def fA (M : Md) : As → Prop
  | .nil => True
  | .cons a r => fE M a ∧ fA M r
def fI (M : Md) : It → Prop
  | .seq a => fE M a
  | .r1 a => fE M a
  | .r2 a b => fE M a ∧ fE M b
  | .rdn a => fE M a
def fC (M : Md) : Cd → Prop
  | .yes => True
  | .if_ c => fE M c
def fB (M : Md) : Bd → Prop
  | .no => True
  | .at_ a => fE M a
end
mutual
def fS (M : Md) : Sm → Prop
  | .asg _ e => fE M e
  | .asgV _ e => fE M e
  | .asgF _ e => fE M e
  | .newK _ => True
  | .newT _ => True
  | .asgT _ e => fE M e
  | .asgTV _ e => fE M e
  | .par _ as => fA M as
  | .parV _ as => fA M as
  | .setI _ k e => fE M k ∧ fE M e
  | .setIV _ k e => fE M k ∧ fE M e
  | .swap _ a b c d => fE M a ∧ fE M b ∧ fE M c ∧ fE M d
  | .put _ k e => fE M k ∧ fE M e
  | .putV _ k e => fE M k ∧ fE M e
  | .app _ e => fE M e
  | .appV _ e => fE M e
  | .insV _ k e => fE M k ∧ fE M e
  | .ext _ e => fE M e
  | .pop _ _ => True
  | .popA _ _ k => fE M k
  | .frz _ => True
  | .ret e => fE M e
  | .retV e => fE M e
  | .retF e => fE M e
  | .retO _ => True
  | .ite c a b => fE M c ∧ fSs M a ∧ fSs M b
  | .for_ _ it b => fI M it ∧ fSs M b
  | .forK _ _ b => fSs M b
  | .while_ _ c b => fE M c ∧ fSs M b
def fSs (M : Md) : Ss → Prop
  | .nil => True
  | .cons s r => fS M s ∧ fSs M r
end
end Fv

set_option Elab.async false
set_option linter.all false
set_option maxRecDepth 100000
set_option autoImplicit false
/-! FvE: what the look accepts, the evaluator tells: expressions. -/
namespace Fv
open PySem L2

def bltNames : List Str := ["len", "max", "min", "sum", "abs", "int", "list", "tuple", "sorted", "set", "range", "isinstance", "repr", "bool", "str"]
structure CxOk (M : Md) (Γ : Ctx) (X : Cx) : Prop where
  prog : X.prog = M.P
  w : X.w = M.w
  K : X.K = M.K
  mg : X.mg = M.mg
  base : X.base = M.base
  room : Room M.k X.A
  gd : X.A.guards = some []
  N : X.N = Γ.N
  sc : X.env.scope = Γ.sc
  fn : X.fn = Γ.fn
  nd : Γ.N.Nodup
  kind : Γ.sc.kind = .function
  calm : X.calm = true
  xe : X.xe = fun _ _ => False
  blt : ∀ x ∈ bltNames, M.mg x = none
section
variable {M : Md} {Γ : Ctx} {X : Cx}
theorem CxOk.un (ok : CxOk M Γ X) : X.A.units + 200 < cLine := by have := ok.room.un; omega
theorem CxOk.vis (ok : CxOk M Γ X) {x : Str} (h : visB Γ x = true) : Vis X.env.scope x := by
  rw [ok.sc]
  unfold visB at h
  split at h
  · exact .inl (by assumption)
  · exact .inr (.inl (by assumption))
  · exact .inr (.inr (by assumption))
  · cases h
theorem CxOk.gl (ok : CxOk M Γ X) {x : Str} (h : glB Γ x = true) : Gl X x ∧ (x == ("__debug__" : Str)) = false ∧ x ≠ ("__name__" : Str) := by
  unfold glB at h
  split at h
  · rename_i e
    rw [Bool.and_eq_true] at h
    refine ⟨?_, by simpa using h.1, by simpa using h.2⟩
    show X.env.scope.names.lookup x = some .globalImplicit
    rw [ok.sc]
    exact e
  · cases h
theorem CxOk.loc (ok : CxOk M Γ X) {x : Str} (h : locB Γ x = true) : L2.Loc X.env.scope x ∧ (X.fn x = true ∨ X.env.scope.names.lookup x = some .local) := by
  unfold L2.Loc
  rw [ok.sc, ok.fn]
  unfold locB at h
  split at h
  · rename_i e
    exact ⟨.inl e, .inr e⟩
  · rename_i e
    exact ⟨.inr e, .inl h⟩
  · cases h
theorem CxOk.at_ (ok : CxOk M Γ X) {x : Str} {i : Nat} (h : nmB Γ i x = true) : X.N[i]? = some x := by
  rw [ok.N]
  exact of_decide_eq_true h
theorem CxOk.nb (ok : CxOk M Γ X) {x : Str} (h : x ∈ bltNames) : X.mg x = none := by rw [ok.mg]; exact ok.blt x h
/-- a name of the def, read -/
theorem rd_name (ok : CxOk M Γ X) {i : Nat} {e : Expr} (h : rdB Γ i e = true) : PE X e (tVar i) ∧ ∃ x p, e = .Name x p := by
  unfold rdB at h
  split at h
  · rename_i x p
    rw [Bool.and_eq_true, Bool.and_eq_true, Bool.and_eq_true] at h
    obtain ⟨⟨⟨h1, h2⟩, h3⟩, h4⟩ := h
    exact ⟨pe_var (ok.at_ h1) (ok.vis h2) (by simpa using h3) (by simpa using h4), x, p, rfl⟩
  · cases h
theorem gn_name (ok : CxOk M Γ X) {x : Str} {e : Expr} (h : gnB Γ x e = true) : ∃ p, e = .Name x p ∧ Gl X x ∧ (x == ("__debug__" : Str)) = false ∧ x ≠ ("__name__" : Str) := by
  unfold gnB at h
  split at h
  · rename_i y p
    rw [Bool.and_eq_true] at h
    have e : y = x := by simpa using h.1
    subst e
    obtain ⟨a, b, c⟩ := ok.gl h.2
    exact ⟨p, rfl, a, b, c⟩
  · cases h
theorem star1 {e : Expr} {es : List Expr} {env : Env} (h : noStar e = true) : starEach (e :: es) env = (false, eval e env) :: starEach es env := by
  cases e <;> first
    | rfl
    | cases h
theorem plain_ix {e : Expr} (h : noSlice e = true) : PlainIx e := by
  cases e <;> first
    | exact fun _ _ => rfl
    | cases h
theorem set_ix {e : Expr} {env : Env} (h : noSet e = true) : ∀ x, foldedSetIterable e env x = pure x := by
  cases e <;> first
    | exact fun _ => rfl
    | cases h
/-- the context within a comprehension -/
theorem CxOk.blk (ok : CxOk M Γ X) {scope : Scope} (hk : scope.kind = .function) (s : Shared) (H : Hp) (C : Addr) (cl : List (Str × Addr)) (fp : List Addr) : CxOk M (inner Γ scope) (X.blk s H scope (compEnvC scope cl C X.env) fp) where
  prog := ok.prog
  w := ok.w
  K := ok.K
  mg := ok.mg
  base := ok.base
  room := ok.room
  gd := ok.gd
  N := ok.N
  sc := by
    show relabel scope X.env = relab scope Γ.sc
    rw [← ok.sc]
    rfl
  fn := rfl
  nd := ok.nd
  kind := hk
  calm := ok.calm
  xe := rfl
  blt := ok.blt
end

/-! ### readings -/
section
variable {σ : L2.St} {H : Hp} {Q : VK}
theorem cellD_of {ρ : EnvD} {i : Nat} {d : D} (e : cellD ρ i = some d) : ρ[i]? = some (.fz d) := by
  unfold cellD at e
  split at e
  · rename_i hc
    have z := Option.some.inj e
    subst z
    exact hc
  · cases e
theorem cellL_of {ρ : EnvD} {i : Nat} {ds : List D} (e : cellL ρ i = some ds) : ρ[i]? = some (.ol ds) := by
  unfold cellL at e
  split at e
  · rename_i hc
    have z := Option.some.inj e
    subst z
    exact hc
  · cases e
theorem bind1 {α γ : Type} {oa : Option α} {f : α → Option γ} {k : γ} (h : oa.bind f = some k) : ∃ x, oa = some x ∧ f x = some k := by
  cases oa with
  | none => cases h
  | some x => exact ⟨x, rfl, h⟩
theorem bind2' {α β γ : Type} {oa : Option α} {ob : Option β} {f : α → β → Option γ} {k : γ} (h : bind2 oa ob f = some k) : ∃ x y, oa = some x ∧ ob = some y ∧ f x y = some k := by
  obtain ⟨x, h1, h2⟩ := bind1 h
  obtain ⟨y, h3, h4⟩ := bind1 h2
  exact ⟨x, y, h1, h3, h4⟩
theorem bind3' {α β γ δ : Type} {oa : Option α} {ob : Option β} {oc : Option γ} {f : α → β → γ → Option δ} {k : δ} (h : bind3 oa ob oc f = some k) : ∃ x y z, oa = some x ∧ ob = some y ∧ oc = some z ∧ f x y z = some k := by
  obtain ⟨x, h1, h2⟩ := bind1 h
  obtain ⟨y, h3, h4⟩ := bind1 h2
  obtain ⟨z, h5, h6⟩ := bind1 h4
  exact ⟨x, y, z, h1, h3, h5, h6⟩
theorem e_var {i : Nat} : tEv (fun ρ => cellD ρ i) σ H Q → tVar i σ H Q := fun ⟨B, O0, own, ρ, d, sx, e, q⟩ => by
  obtain ⟨v, h1, h2⟩ := sx.cell i _ (cellD_of e)
  exact ⟨v, h1, q v H (Same.refl _) h2⟩
theorem e_const {v : V} {d : D} (h : ∀ H, Rp H v d) : tEv (fun _ => some d) σ H Q → tC v σ H Q := fun ⟨B, O0, own, ρ, d', sx, e, q⟩ => by
  have z := Option.some.inj e
  subst z
  exact q v H (Same.refl _) (h _)
/-- two parts, then an operation by values -/
theorem e_op {ea eb : EnvD → Option D} {g : D → D → Option D} : tEv (fun ρ => bind2 (ea ρ) (eb ρ) g) σ H Q → tOp (rD g) (tEv ea) (tEv eb) σ H Q :=
  fun ⟨B, O0, own, ρ, d, sx, e, q⟩ => by
    obtain ⟨x, y, h1, h2, h3⟩ := bind2' e
    exact ⟨B, O0, own, ρ, x, sx, h1, fun v H1 s1 r1 => ⟨B, O0, own, ρ, y, sx.up s1, h2, fun u H2 s2 r2 =>
      ⟨_, x, y, d, ((sx.up s1).up s2).ook, r1.up s2, r2, h3, fun v' H3 s3 r3 => q v' H3 (s1.trans (s2.trans s3)) r3⟩⟩⟩
theorem fresh_up {H H1 : Hp} {p : Addr} (s : Same H H1) (n : H1 p = none) : H p = none := by
  cases z : H p with
  | none => rfl
  | some u => rw [s p u z] at n; cases n
theorem f_op {ea eb : EnvD → Option D} {g : D → D → Option (List D)} : tFv (fun ρ => bind2 (ea ρ) (eb ρ) g) σ H Q → tOp (rDF g) (tEv ea) (tEv eb) σ H Q :=
  fun ⟨B, O0, own, ρ, d, sx, e, q⟩ => by
    obtain ⟨x, y, h1, h2, h3⟩ := bind2' e
    exact ⟨B, O0, own, ρ, x, sx, h1, fun v H1 s1 r1 => ⟨B, O0, own, ρ, y, sx.up s1, h2, fun u H2 s2 r2 =>
      ⟨_, x, y, d, ((sx.up s1).up s2).ook, r1.up s2, r2, h3, fun p xs H3 n s3 hp r3 => q p xs H3 (fresh_up (s1.trans s2) n) (s1.trans (s2.trans s3)) hp r3⟩⟩⟩
theorem e_un {ea : EnvD → Option D} {g : D → Option D} : tEv (fun ρ => (ea ρ).bind g) σ H Q → tUn (rU1 g) (tEv ea) σ H Q :=
  fun ⟨B, O0, own, ρ, d, sx, e, q⟩ => by
    obtain ⟨x, h1, h2⟩ := bind1 e
    exact ⟨B, O0, own, ρ, x, sx, h1, fun v H1 s1 r1 => ⟨_, x, d, (sx.up s1).ook, r1, h2, fun v' H3 s3 r3 => q v' H3 (s1.trans s3) r3⟩⟩
theorem e_callL {ea : EnvD → Option (List D)} {g : List D → Option D} : tEv (fun ρ => (ea ρ).bind g) σ H Q → tCB (rL g) (tAv ea) σ H Q :=
  fun ⟨B, O0, own, ρ, d, sx, e, q⟩ => by
    obtain ⟨x, h1, h2⟩ := bind1 e
    exact ⟨B, O0, own, ρ, x, sx, h1, fun v H1 s1 r1 => ⟨_, x, d, (sx.up s1).ook, r1, h2, fun v' H3 s3 r3 => q v' H3 (s1.trans s3) r3⟩⟩
theorem e_callLF {ea : EnvD → Option (List D)} {g : List D → Option (List D)} : tFv (fun ρ => (ea ρ).bind g) σ H Q → tCB (rLF g) (tAv ea) σ H Q :=
  fun ⟨B, O0, own, ρ, d, sx, e, q⟩ => by
    obtain ⟨x, h1, h2⟩ := bind1 e
    exact ⟨B, O0, own, ρ, x, sx, h1, fun v H1 s1 r1 => ⟨_, x, d, (sx.up s1).ook, r1, h2, fun p xs H3 n s3 hp r3 => q p xs H3 (fresh_up s1 n) (s1.trans s3) hp r3⟩⟩
/-- a call of a def -/
theorem e_call {ea : EnvD → Option (List D)} {g : List D → Option D} : tEv (fun ρ => (ea ρ).bind g) σ H Q → tCall (spP g) [] E0 (tAv ea) σ H Q :=
  fun ⟨B, O0, own, ρ, d, sx, e, q⟩ => by
    obtain ⟨x, h1, h2⟩ := bind1 e
    exact ⟨B, O0, own, ρ, x, sx, h1, fun v H1 s1 r1 => ⟨_, x, d, (sx.up s1).ook, by rw [List.append_nil]; exact r1, h2, fun v' H3 s3 r3 => q v' H3 (s1.trans s3) r3⟩⟩
theorem f_call {ea : EnvD → Option (List D)} {g : List D → Option (List D)} : tFv (fun ρ => (ea ρ).bind g) σ H Q → tCall (spF g) [] E0 (tAv ea) σ H Q :=
  fun ⟨B, O0, own, ρ, d, sx, e, q⟩ => by
    obtain ⟨x, h1, h2⟩ := bind1 e
    exact ⟨B, O0, own, ρ, x, sx, h1, fun v H1 s1 r1 => ⟨_, x, d, (sx.up s1).ook, by rw [List.append_nil]; exact r1, h2, fun p xs H3 n s3 hp r3 => q p xs H3 (fresh_up s1 n) (s1.trans s3) hp r3⟩⟩
theorem a_cons {ea : EnvD → Option D} {er : EnvD → Option (List D)} {Q : List V → Hp → Prop} : tAv (fun ρ => bind2 (ea ρ) (er ρ) fun d ds => some (d :: ds)) σ H Q → tCons (tEv ea) (tAv er) σ H Q :=
  fun ⟨B, O0, own, ρ, d, sx, e, q⟩ => by
    obtain ⟨x, y, h1, h2, h3⟩ := bind2' e
    have z := Option.some.inj h3
    subst z
    exact ⟨B, O0, own, ρ, x, sx, h1, fun v H1 s1 r1 => ⟨B, O0, own, ρ, y, sx.up s1, h2, fun vs H2 s2 r2 => q _ H2 (s1.trans s2) (.cons (r1.up s2) r2)⟩⟩
theorem a_one {ea : EnvD → Option D} {Q : List V → Hp → Prop} : tAv (fun ρ => (ea ρ).map fun d => [d]) σ H Q → tCons (tEv ea) tNil σ H Q :=
  fun ⟨B, O0, own, ρ, d, sx, e, q⟩ => by
    obtain ⟨x, h1, h2⟩ := map_some' e
    subst h2
    exact ⟨B, O0, own, ρ, x, sx, h1, fun v H1 s1 r1 => q _ H1 s1 (.cons r1 .nil)⟩
theorem a_nil {Q : List V → Hp → Prop} : tAv (fun _ => some []) σ H Q → tNil σ H Q := fun ⟨B, O0, own, ρ, d, sx, e, q⟩ => by
  have z := Option.some.inj e
  subst z
  exact q [] H (Same.refl _) .nil
/-- what is new is seen -/
theorem f_e {g : EnvD → Option (List D)} : tEv (fun ρ => (g ρ).map .list) σ H Q → tFv g σ H Q := fun ⟨B, O0, own, ρ, d, sx, e, q⟩ => by
  obtain ⟨ds, h1, h2⟩ := map_some' e
  subst h2
  refine ⟨B, O0, own, ρ, ds, sx, h1, fun p xs H' n s hp r => q _ H' s (.lst (.inl ?_) (RpA.mono (same_sub (same_less fun a ha => addO_l ha)) _ _ r))⟩
  rw [hide_out (sx.ook.new n)]
  exact hp
theorem e_tup {ea : EnvD → Option (List D)} : tEv (fun ρ => (ea ρ).bind tupD) σ H Q → tTup (tAv ea) σ H Q :=
  fun ⟨B, O0, own, ρ, d, sx, e, q⟩ => by
    obtain ⟨ds, h1, h2⟩ := bind1 e
    obtain ⟨h3, h4⟩ := ite_some h2
    subst h4
    exact ⟨B, O0, own, ρ, ds, sx, h1, fun vs H1 s1 r1 => ⟨by rw [pair_len r1]; exact h3, fun p n => q _ _ (s1.trans (same_new n)) (seenTup (sx.up s1).ook n r1)⟩⟩
theorem f_lst {ea : EnvD → Option (List D)} : tFv (fun ρ => (ea ρ).bind lenOk) σ H Q → tLst (tAv ea) σ H Q :=
  fun ⟨B, O0, own, ρ, d, sx, e, q⟩ => by
    obtain ⟨ds, h1, h2⟩ := bind1 e
    obtain ⟨h3, h4⟩ := ite_some h2
    subst h4
    exact ⟨B, O0, own, ρ, ds, sx, h1, fun vs H1 s1 r1 => ⟨by rw [pair_len r1]; exact h3, fun p n => q p vs _ (fresh_up s1 n) (s1.trans (same_new n)) upd_same (seenF n r1)⟩⟩
def rRepX : R2 := fun x y H Q => ∃ l k xs, x = .ref l ∧ y = .int k ∧ H l = some (.lst xs) ∧ (-(2 ^ 63) ≤ k ∧ k < 2 ^ 63 ∧ xs.length * k.toNat ≤ sizeLine) ∧ ∀ p, H p = none → Q (.ref p) (upd H p (.lst (List.replicate k.toNat xs).flatten))
theorem f_rep {ea : EnvD → Option (List D)} {eb : EnvD → Option D} : tFv (fun ρ => bind2 (ea ρ) (eb ρ) repD) σ H Q → tOp rRepX (tLst (tAv ea)) (tEv eb) σ H Q :=
  fun ⟨B, O0, own, ρ, d, sx, e, q⟩ => by
    obtain ⟨xs, kd, ha, hb, e⟩ := bind2' e
    unfold repD at e
    split at e
    · rename_i k
      obtain ⟨h3, h4⟩ := ite_some e
      subst h4
      refine ⟨B, O0, own, ρ, xs, sx, ha, fun vs H1 s1 r1 => ⟨by rw [pair_len r1]; exact h3.1, fun l nl => ⟨B, O0, own, ρ, _, sx.up (s1.trans (same_new nl)), hb, fun u H2 s2 r2 => ?_⟩⟩⟩
      cases r2
      refine ⟨l, k, vs, rfl, rfl, s2 l _ upd_same, ⟨h3.2.1, h3.2.2.1, by rw [pair_len r1]; exact h3.2.2.2⟩, fun p n => ?_⟩
      have s3 : Same H1 H2 := (same_new nl).trans s2
      exact q p _ _ (fresh_up (s1.trans s3) n) ((s1.trans s3).trans (same_new n)) upd_same (seenF n (pair_rep (r1.up s3) _))
    · cases e
/-- tests -/
theorem t_op {ea eb : EnvD → Option D} {g : D → D → Option Bool} {Q : Bool → Hp → Prop} : tTv (fun ρ => bind2 (ea ρ) (eb ρ) g) σ H Q → tTest (tOp (rD fun x y => (g x y).map .bool) (tEv ea) (tEv eb)) σ H Q :=
  fun ⟨B, O0, own, ρ, b, sx, e, q⟩ => by
    obtain ⟨x, y, h1, h2, h3⟩ := bind2' e
    refine ⟨B, O0, own, ρ, x, sx, h1, fun v H1 s1 r1 => ⟨B, O0, own, ρ, y, sx.up s1, h2, fun u H2 s2 r2 =>
      ⟨_, x, y, .bool b, ((sx.up s1).up s2).ook, r1.up s2, r2, by show (g x y).map PyData.bool = _; rw [h3]; rfl, fun v' H3 s3 r3 => ?_⟩⟩⟩
    cases r3
    exact ⟨b, rfl, q H3 (s1.trans (s2.trans s3))⟩
theorem tru_of {K : PySem.W.Frag} {O : Own} {H : Hp} {v : V} {d : D} {b : Bool} (r : Rp (hide O H) v d) (h : truthD d = some b) : TruV K v H b := by
  unfold truthD at h
  split at h
  · have z := Option.some.inj h
    subst z
    cases r
    rfl
  · have z := Option.some.inj h
    subst z
    cases r
    rfl
  · have z := Option.some.inj h
    subst z
    cases r with
    | lst h1 r1 =>
      refine .inl ⟨_, .inl (rd_of h1), ?_⟩
      cases r1 <;> rfl
  · have z := Option.some.inj h
    subst z
    cases r with
    | tup h1 r1 =>
      refine .inr (.inl ⟨_, .of (of_hide h1).1, ?_⟩)
      cases r1 <;> rfl
  · have z := Option.some.inj h
    subst z
    cases r
    rfl
  · cases h
theorem t_truth {K : PySem.W.Frag} {ea : EnvD → Option D} {Q : Bool → Hp → Prop} : tTv (fun ρ => (ea ρ).bind truthD) σ H Q → (fun (σ : L2.St) (H : Hp) (Q : Bool → Hp → Prop) => tEv ea σ H fun x H' => ∃ k, TruV K x H' k ∧ Q k H') σ H Q :=
  fun ⟨B, O0, own, ρ, b, sx, e, q⟩ => by
    obtain ⟨x, h1, h2⟩ := bind1 e
    exact ⟨B, O0, own, ρ, x, sx, h1, fun v H1 s1 r1 => ⟨b, tru_of r1 h2, q H1 s1⟩⟩
/-- what is owned is seen, for a test -/
theorem t_view {et : EnvD → Option Bool} {Q : Bool → Hp → Prop} : tTv (fun ρ => et (viewE ρ)) σ H Q → tTv et σ H Q := fun ⟨B, O0, own, ρ, b, sx, e, q⟩ => ⟨B, O0, _, viewE ρ, b, sx.view, e, q⟩
end
end Fv

set_option Elab.async false
set_option linter.all false
set_option maxRecDepth 100000
set_option autoImplicit false
/-! FvE2: targets, what is walked, comprehensions. -/
namespace Fv
open PySem L2

section
variable {B H H' : Hp} {O0 own : Own} {σ : L2.St} {ρ : EnvD} {i : Nat} {v : V} {d : D} {p : Addr}
theorem set_big {α : Type} {xs : List α} {n : Nat} {x : α} (h : xs.length ≤ n) : xs.set n x = xs := List.set_eq_of_length_le h
theorem Sx.set' (h : Sx B O0 own σ H ρ) (r : Rp (hide (uni O0 own) H) v d) : Sx B O0 own (σ.set i (some v)) H (ρ.set i (.fz d)) := by
  by_cases c : i < ρ.length
  · exact h.set c r
  · have l := h.len
    rw [set_big (xs := σ) (by omega), set_big (xs := ρ) (by omega)]
    exact h
theorem Sx.wipe (h : Sx B O0 own σ H ρ) : ∀ vs : List Nat, Sx B O0 own (L2.wipe σ vs) H (wipeE ρ vs)
  | [] => h
  | v :: vs => by
    have ih := Sx.wipe h vs
    show Sx B O0 own ((L2.wipe σ vs).set v none) H ((wipeE ρ vs).set v .un)
    by_cases c : v < (wipeE ρ vs).length
    · exact ih.drop c none
    · have l := ih.len
      rw [set_big (xs := L2.wipe σ vs) (by omega), set_big (xs := wipeE ρ vs) (by omega)]
      exact ih
theorem wipe_set {σ : L2.St} {x : Option V} : ∀ {vs : List Nat} {j : Nat}, j ∈ vs → L2.wipe (σ.set j x) vs = L2.wipe σ vs
  | v :: vs, j, h => by
    show (L2.wipe (σ.set j x) vs).set v none = (L2.wipe σ vs).set v none
    by_cases e : j ∈ vs
    · rw [wipe_set e]
    · have z : j = v := by
        rcases List.mem_cons.mp h with z | z
        · exact z
        · exact absurd z e
      subst z
      have aux : ∀ vs : List Nat, j ∉ vs → (L2.wipe (σ.set j x) vs).set j none = (L2.wipe σ vs).set j none := by
        intro vs
        induction vs with
        | nil => intro _; show (σ.set j x).set j none = σ.set j none; rw [List.set_set]
        | cons u us ih =>
          intro hn
          show ((L2.wipe (σ.set j x) us).set u none).set j none = ((L2.wipe σ us).set u none).set j none
          have ne : u ≠ j := fun z => hn (by rw [z]; exact List.mem_cons_self)
          rw [List.set_comm _ _ ne, List.set_comm _ _ ne, ih fun z => hn (List.mem_cons_of_mem _ z)]
      exact aux vs e
theorem wipe_wipe {σ : L2.St} : ∀ vs : List Nat, ∀ us : List Nat, (∀ v ∈ vs, v ∈ us) → L2.wipe (L2.wipe σ vs) us = L2.wipe σ us
  | [], us, _ => rfl
  | v :: vs, us, h => by
    show L2.wipe ((L2.wipe σ vs).set v none) us = _
    rw [wipe_set (h v List.mem_cons_self), wipe_wipe vs us fun x hx => h x (List.mem_cons_of_mem _ hx)]

/-- a target of names: the heap stays -/
def tGv (t : Tg) : TG := fun v σ H Q => ∃ B O0 own ρ d ρ', Sx B O0 own σ H ρ ∧ Rp (hide (uni O0 own) H) v d ∧ asT t d ρ = some ρ' ∧
  ∀ σ', Sx B O0 own σ' H ρ' → (∀ vs, tgIn vs t = true → L2.wipe σ' vs = L2.wipe σ vs) → Q σ' H
theorem g_nm {Q : L2.St → Hp → Prop} : tGv (.nm i) v σ H Q → gName i v σ H Q := fun ⟨B, O0, own, ρ, d, ρ', sx, r, e, q⟩ => by
  have z := Option.some.inj e
  subst z
  exact q _ (sx.set' r) fun vs h => wipe_set (by simpa [tgIn] using h)
/-- several names, from the left -/
def tGs (is : List Nat) : TGs := fun vs σ H Q => ∃ B O0 own ρ ds ρ', Sx B O0 own σ H ρ ∧ RpA (hide (uni O0 own) H) vs ds ∧ setAll is ds ρ = some ρ' ∧
  ∀ σ', Sx B O0 own σ' H ρ' → (∀ vs, is.all vs.contains = true → L2.wipe σ' vs = L2.wipe σ vs) → Q σ' H
end
section
variable {M : Md} {Γ : Ctx} {X : Cx}
theorem PGs.by {es : List Expr} {t t' : TGs} (h : PGs X es t) (i : ∀ v σ H Q, t' v σ H Q → t v σ H Q) : PGs X es t' := ⟨fun pins s σ H x u Q I r q => h.run pins s σ H x u Q I r (i x σ H Q q)⟩
theorem pg_nm (ok : CxOk M Γ X) {i : Nat} {e : Expr} (h : wrB Γ i e = true) : PG X e (gName i) := by
  unfold wrB at h
  split at h
  · rw [Bool.and_eq_true] at h
    obtain ⟨a, b⟩ := ok.loc h.2
    exact pg_name (by rw [ok.N]; exact ok.nd) (ok.at_ h.1) a b
  · cases h
theorem pg_nms (ok : CxOk M Γ X) : ∀ {is : List Nat} {es : List Expr}, wrsB Γ is es = true → PGs X es (tGs is)
  | [], [], _ => PGs.by pgs_nil fun vs σ H Q ⟨B, O0, own, ρ, ds, ρ', sx, r, e, q⟩ => by
    cases ds with
    | nil =>
      cases r
      have z := Option.some.inj e
      subst z
      exact ⟨rfl, q _ sx fun _ _ => rfl⟩
    | cons _ _ => cases e
  | i :: is, e :: es, h => by
    have h' : wrB Γ i e = true ∧ wrsB Γ is es = true := by simpa [wrsB] using h
    have hs : starEach [] X.env = [] := rfl
    refine PGs.by (pgs_cons (pg_nm ok h'.1) (pg_nms ok h'.2) ?_) fun vs σ H Q ⟨B, O0, own, ρ, ds, ρ', sx, r, ea, q⟩ => ?_
    · have hw := h'.1
      unfold wrB at hw
      split at hw
      · rfl
      · cases hw
    · cases ds with
      | nil => cases ea
      | cons d ds =>
        cases r with
        | cons r1 r2 =>
          refine ⟨_, _, rfl, ?_⟩
          show tGs is _ (σ.set i (some _)) H Q
          refine ⟨B, O0, own, ρ.set i (.fz d), ds, ρ', sx.set' r1, r2, ea, fun σ' sx' hw => q σ' sx' fun vs hv => ?_⟩
          have hv' : i ∈ vs ∧ is.all vs.contains = true := by simpa using hv
          rw [hw vs hv'.2, wipe_set hv'.1]
theorem wrs_assign (X : Cx) : ∀ {is : List Nat} {es : List Expr}, wrsB Γ is es = true → (assignEach es X.env).length = is.length ∧ (assignEach es X.env).findIdx? (·.1) = none
  | [], [], _ => ⟨rfl, rfl⟩
  | i :: is, e :: es, h => by
    have h' : wrB Γ i e = true ∧ wrsB Γ is es = true := by simpa [wrsB] using h
    obtain ⟨a, b⟩ := wrs_assign X h'.2
    have hw := h'.1
    unfold wrB at hw
    split at hw
    · rename_i x p
      have e : assignEach (.Name x p :: es) X.env = (false, assign (.Name x p) X.env) :: assignEach es X.env := rfl
      rw [e]
      refine ⟨by simp [a], ?_⟩
      rw [List.findIdx?_cons]
      simp [b]
    · cases hw
theorem setAll_len : ∀ {is : List Nat} {ds : List D} {ρ ρ' : EnvD}, setAll is ds ρ = some ρ' → ds.length = is.length
  | [], [], _, _, _ => rfl
  | [], _ :: _, _, _, h => by cases h
  | _ :: _, [], _, _, h => by cases h
  | i :: is, d :: ds, ρ, ρ', h => by
    have := setAll_len (is := is) (ds := ds) h
    simp [this]
/-- a tuple of names, from a tuple or a list -/
theorem pg_tg (ok : CxOk M Γ X) {t : Tg} {e : Expr} (h : tgB Γ t e = true) : PG X e (tGv t) := by
  cases t with
  | nm i => exact PG.by (pg_nm ok h) fun v σ H Q => g_nm
  | tup is =>
    cases e with
    | Tuple es k pos =>
      have h' : wrsB Γ is es = true := h
      obtain ⟨a, b⟩ := wrs_assign X h'
      refine ⟨fun pins s σ H v u Q I ru ⟨B, O0, own, ρ, d, ρ', sx, r, ea, q⟩ => ?_⟩
      cases d with
      | tuple ds =>
        cases r with
        | tup h1 r1 =>
          refine (pg_tup (n := is.length) ok.calm (pg_nms ok h') a b).run pins s σ H _ u Q I ru ⟨_, _, rfl, .of (of_hide h1).1, ?_, B, O0, own, ρ, ds, ρ', sx, r1, ea, q⟩
          rw [pair_len r1]
          exact setAll_len ea
      | list ds =>
        cases r with
        | lst h1 r1 =>
          refine (pg_unl (n := is.length) ok.calm (pg_nms ok h') a b).run pins s σ H _ u Q I ru ⟨_, _, rfl, .inl (rd_of h1), ?_, B, O0, own, ρ, ds, ρ', sx, r1, ea, q⟩
          rw [pair_len r1]
          exact setAll_len ea
      | _ => cases ea
    | _ => cases h
end

/-! ### what is walked -/
theorem hide_hide {O P : Own} {H : Hp} : hide O (hide P H) = hide (uni O P) H := by
  funext a
  unfold hide uni
  cases O a <;> cases P a <;> rfl
theorem OwnOk.of {B H : Hp} {O0 own : Own} {σ : L2.St} {ρ : EnvD} (sx : Sx B O0 own σ H ρ) : OwnOk own B H := sx.ow
/-- seen over the base: seen -/
theorem base_sub {B H : Hp} {O0 own : Own} (o0 : OOk O0 B) (s : Same B H) (ow : OwnOk own B H) : Same (hide O0 B) (hide (uni O0 own) H) := fun a u e => by
  obtain ⟨h1, h2⟩ := of_hide e
  rw [hide_out]
  · exact s a u h1
  · cases q : uni O0 own a with
    | false => rfl
    | true =>
      rcases uni_or q with q | q
      · rw [q] at h2; cases h2
      · rw [(ow a q).1] at h1; cases h1
theorem walk_list {K : PySem.W.Frag} {O0 own : Own} {H : Hp} {a : Addr} {xs : List V} {ds : List D} (h : Rd (hide (uni O0 own) H) a (.lst xs)) (r : RpA (hide (uni O0 own) H) xs ds) : Walk (Itl K a) ds O0 (hide own H) := by
  intro o0 i H2 own2 s ow
  rw [← hide_hide] at h r
  have sb := base_sub o0 s ow
  have h2 : SqL K H2 a xs := .inl (rd_same s (rd_of h))
  refine ⟨fun d hd => ?_, fun hl => ⟨xs, h2, by rw [pair_len r]; exact hl⟩⟩
  obtain ⟨x, hx, rx⟩ := pair_get r hd
  refine ⟨⟨xs, x, h2, hx⟩, fun y H3 ⟨e, f⟩ => ⟨e, ?_⟩⟩
  have e2 := f xs h2
  rw [hx] at e2
  have z := Option.some.inj e2
  subst z
  exact rx.mono (same_sub sb)
theorem walk_tup {K : PySem.W.Frag} {O0 own : Own} {H : Hp} {a : Addr} {xs : List V} {ds : List D} (h : hide (uni O0 own) H a = some (.tup xs)) (r : RpA (hide (uni O0 own) H) xs ds) : Walk (Itt K a) ds O0 (hide own H) := by
  intro o0 i H2 own2 s ow
  rw [← hide_hide] at h r
  have sb := base_sub o0 s ow
  have h2 : SqT K H2 a xs := .of (s a _ (of_hide h).1)
  refine ⟨fun d hd => ?_, fun hl => ⟨xs, h2, by rw [pair_len r]; exact hl⟩⟩
  obtain ⟨x, hx, rx⟩ := pair_get r hd
  refine ⟨⟨xs, x, h2, hx⟩, fun y H3 ⟨e, f⟩ => ⟨e, ?_⟩⟩
  have e2 := f xs h2
  rw [hx] at e2
  have z := Option.some.inj e2
  subst z
  exact rx.mono (same_sub sb)
theorem rngD_get {lo : Int} {n i : Nat} {d : D} (h : (rngD lo n)[i]? = some d) : i < n ∧ d = .int (lo + (i : Nat)) := by
  unfold rngD at h
  rw [List.getElem?_map] at h
  by_cases c : i < n
  · rw [List.getElem?_range c] at h
    exact ⟨c, (Option.some.inj h).symm⟩
  · rw [List.getElem?_eq_none (by rw [List.length_range]; omega)] at h
    cases h
theorem rngD_len (lo : Int) (n : Nat) : (rngD lo n).length = n := by unfold rngD; rw [List.length_map, List.length_range]
theorem walk_rng {O0 own : Own} {H : Hp} {lo : Int} {n : Nat} : Walk (Itr lo n) (rngD lo n) O0 (hide own H) := by
  intro o0 i H2 own2 s ow
  refine ⟨fun d hd => ?_, fun hl => by rw [rngD_len] at hl; exact hl⟩
  obtain ⟨h1, h2⟩ := rngD_get hd
  subst h2
  refine ⟨h1, fun x H3 ⟨e, f⟩ => ⟨e, ?_⟩⟩
  subst f
  exact .int _
theorem rngDn_get {hi : Int} {n i : Nat} {d : D} (h : (rngDn hi n)[i]? = some d) : i < n ∧ d = .int (hi - (i : Nat)) := by
  unfold rngDn at h
  rw [List.getElem?_map] at h
  by_cases c : i < n
  · rw [List.getElem?_range c] at h
    exact ⟨c, (Option.some.inj h).symm⟩
  · rw [List.getElem?_eq_none (by rw [List.length_range]; omega)] at h
    cases h
theorem rngDn_len (hi : Int) (n : Nat) : (rngDn hi n).length = n := by unfold rngDn; rw [List.length_map, List.length_range]
theorem walk_rngDn {O0 own : Own} {H : Hp} {hi : Int} {n : Nat} : Walk (Itc hi (-1) n) (rngDn hi n) O0 (hide own H) := by
  intro o0 i H2 own2 s ow
  refine ⟨fun d hd => ?_, fun hl => by rw [rngDn_len] at hl; exact hl⟩
  obtain ⟨h1, h2⟩ := rngDn_get hd
  subst h2
  refine ⟨h1, fun x H3 ⟨e, f⟩ => ⟨e, ?_⟩⟩
  subst f
  have z : hi - (i : Nat) = hi + (i : Nat) * (-1) := by omega
  rw [z]
  exact .int _
section
variable {X : Cx} {tg e e' : Expr}
theorem i_seq {ea : EnvD → Option D} (h : PE X e (tEv ea)) : PI X tg e (tIv fun ρ => (ea ρ).bind itemsD) := by
  refine ⟨fun pins s σ H R I ⟨B, O0, own, ρ, ds, sx, ev, q⟩ => ?_⟩
  obtain ⟨d, h1, h2⟩ := bind1 ev
  cases d with
  | list xs =>
    have z := Option.some.inj h2
    subst z
    refine (pi_list h).run pins s σ H R I ⟨B, O0, own, ρ, _, sx, h1, fun v H1 s1 r1 => ?_⟩
    cases r1 with
    | lst h3 r3 => exact ⟨_, rfl, ⟨_, .inl (rd_of h3)⟩, q _ H1 s1 (walk_list h3 r3)⟩
  | tuple xs =>
    have z := Option.some.inj h2
    subst z
    refine (pi_tup h).run pins s σ H R I ⟨B, O0, own, ρ, _, sx, h1, fun v H1 s1 r1 => ?_⟩
    cases r1 with
    | tup h3 r3 => exact ⟨_, rfl, ⟨_, .of (of_hide h3).1⟩, q _ H1 s1 (walk_tup h3 r3)⟩
  | _ => cases h2
theorem star_one {e : Expr} {env : Env} (h : noStar e = true) : starEach [e] env = [(false, eval e env)] := star1 h
theorem star_two {e e' : Expr} {env : Env} (h : noStar e = true) (h' : noStar e' = true) : starEach [e, e'] env = [(false, eval e env), (false, eval e' env)] := by rw [star1 h, star1 h']; rfl
theorem i_r1 {p pos : Pos} {ea : EnvD → Option D} (hg : Gl X "range") (hm : X.mg "range" = none) (n : noStar e = true) (h : PE X e (tEv ea)) : PI X tg (.Call (.Name "range" p) [e] [] pos) (tIv fun ρ => (ea (viewE ρ)).bind r1F) := by
  refine PI.by (pi_range1 hg hm (pa_cons h pa_nil (star1 n)) (star_one n)) fun σ H R ⟨B, O0, own, ρ, ds, sx, ev, q⟩ => ?_
  obtain ⟨d, h1, h2⟩ := bind1 ev
  unfold r1F at h2
  split at h2
  · obtain ⟨h3, h4⟩ := ite_some h2
    subst h4
    refine ⟨B, O0, _, viewE ρ, _, sx.view, h1, fun v H1 s1 r1 => ?_⟩
    cases r1
    exact ⟨_, rfl, h3.1, h3.2, q _ H1 s1 walk_rng⟩
  · cases h2
theorem i_r2 {p pos : Pos} {ea eb : EnvD → Option D} (hg : Gl X "range") (hm : X.mg "range" = none) (n : noStar e = true) (n' : noStar e' = true) (h : PE X e (tEv ea)) (h' : PE X e' (tEv eb)) :
    PI X tg (.Call (.Name "range" p) [e, e'] [] pos) (tIv fun ρ => bind2 (ea (viewE ρ)) (eb (viewE ρ)) r2F) := by
  refine PI.by (pi_range2 hg hm (pa_cons h (pa_cons h' pa_nil (star1 n')) (star1 n)) (star_two n n') (star_one n')) fun σ H R ⟨B, O0, own, ρ, ds, sx, ev, q⟩ => ?_
  obtain ⟨d, d', h1, h1', h2⟩ := bind2' ev
  unfold r2F at h2
  split at h2
  · obtain ⟨h3, h4⟩ := ite_some h2
    subst h4
    refine ⟨B, O0, _, viewE ρ, _, sx.view, h1, fun v H1 s1 r1 => ⟨B, O0, _, viewE ρ, _, (sx.up s1).view, h1', fun v' H2 s2 r2 => ?_⟩⟩
    cases r1
    cases r2
    exact ⟨_, _, rfl, ⟨h3.1.1, h3.1.2, h3.2.1, h3.2.2⟩, q _ H2 (s1.trans s2) walk_rng⟩
  · cases h2
theorem i_rdn {p pos p1 p2 p3 p4 : Pos} {k1 k2 : Nat} {ea : EnvD → Option D} (hg : Gl X "range") (hm : X.mg "range" = none) (n : noStar e = true) (h : PE X e (tEv ea)) :
    PI X tg (.Call (.Name "range" p) [e, .UnaryOp .USub (.Constant (.int 1) k1 p1) p2, .UnaryOp .USub (.Constant (.int 1) k2 p3) p4] [] pos) (tIv fun ρ => (ea (viewE ρ)).bind rdnF) := by
  refine PI.by (pi_range3 hg hm (pa_cons h (pa_cons (pe_un un_neg pe_int) (pa_cons (pe_un un_neg pe_int) pa_nil)) (star1 n)) (star1 n)) fun σ H R ⟨B, O0, own, ρ, ds, sx, ev, q⟩ => ?_
  obtain ⟨d, h1, h2⟩ := bind1 ev
  unfold rdnF at h2
  split at h2
  · rename_i m
    obtain ⟨h3, h4⟩ := ite_some h2
    subst h4
    refine ⟨B, O0, _, viewE ρ, _, sx.view, h1, fun v H1 s1 r1 => ?_⟩
    cases r1
    refine ⟨1, rfl, 1, rfl, m, -1, -1, (m + 1).toNat, rfl, ?_, q _ H1 s1 walk_rngDn⟩
    have hh := RgC.neg (i := m) (j := -1) (by omega) (by omega) (by decide) (by decide)
    have z : m - -1 = m + 1 := by omega
    rw [z] at hh
    exact hh
  · cases h2
end

/-! ### comprehensions -/
section
variable {B H H' : Hp} {O0 own : Own} {σ : L2.St} {ρ : EnvD} {p : Addr}
/-- an owned object that no slot holds is changed -/
theorem Sx.writeFree (h : Sx B O0 own σ H ρ) (op : own p = true) (free : ∀ (j : Nat) (cj : Cell), ρ[j]? = some cj → cj.isOwn = true → σ[j]? ≠ some (some (.ref p))) {u : HO} (ht : isTup u = false) : Sx B O0 own σ (upd H p u) ρ := by
  have hh : hide (uni O0 own) (upd H p u) = hide (uni O0 own) H := by
    funext a
    unfold hide
    by_cases z : a = p
    · subst z
      rw [uni_r op]
      rfl
    · rw [upd_ne z]
  refine ⟨fun a o e => ?_, h.o0, fun q hq => ?_, h.len, fun j c hj => ?_, h.dis⟩
  · have ne : a ≠ p := ne_of_none e (h.ow p op).1
    rw [upd_ne ne]
    exact h.base a o e
  · refine ⟨(h.ow q hq).1, ?_⟩
    by_cases z : q = p
    · subst z
      exact ⟨u, upd_same, ht⟩
    · rw [upd_ne z]
      exact (h.ow q hq).2
  · refine (h.cell j c hj).to (by rw [hh]; exact Sub.refl _) fun q u' o oo ex hu => ⟨o, ?_⟩
    have nq : q ≠ p := fun z => by
      subst z
      exact free j c hj oo ex
    rw [upd_ne nq]
    exact hu
theorem Sx.noRef (h : Sx B O0 own σ H ρ) (n : H p = none) : ∀ (j : Nat) (cj : Cell), ρ[j]? = some cj → cj.isOwn = true → σ[j]? ≠ some (some (.ref p)) := fun j cj hj oj z => by
  obtain ⟨q, u', e1, _, e2⟩ := cell_ref (h.cell j cj hj) oj
  rw [z] at e1
  have y : p = q := V.ref.inj (Option.some.inj (Option.some.inj e1))
  subst y
  rw [n] at e2; cases e2
end
def compF (t : Tg) (vs : List Nat) (ec : EnvD → Option Bool) (ee : EnvD → Option D) (ρ : EnvD) : D → Option (Option D) :=
  fun d => (asT t d (wipeE ρ vs)).bind fun ρ1 => (ec ρ1).bind fun k => cond k ((ee ρ1).map some) (some none)
theorem comp_core {t : Tg} {vs : List Nat} {wi : TI} {ec : EnvD → Option Bool} {ee : EnvD → Option D} (hin : tgIn vs t = true) {σ : L2.St} {H : Hp} {Q : VK} {B : Hp} {O0 own : Own} {ρ : EnvD} {ds' es : List D}
    (sx : Sx B O0 own σ H ρ) (hz : ds'.length ≤ sizeLine) (h2 : compGo (compF t vs ec ee ρ) ds' = some es) (hwi : ∀ R : L2.It → Hp → Prop, (∀ J H1, Same H H1 → Walk J ds' O0 (hide own H1) → R J H1) → wi σ H R)
    (q : ∀ p xs H', H p = none → Same H H' → H' p = some (.lst xs) → RpA (hide (addO (uni O0 own) p) H') xs es → Q (.ref p) H') : tLc wi (tGv t) (tTv ec) (tEv ee) vs σ H Q := by
  refine hwi _ fun J H1 s1 wk Dl hD => ?_
  have sx1 := sx.up s1
  have n1 : H1 Dl = none := hD
  have free : ∀ (j : Nat) (cj : Cell), (wipeE ρ vs)[j]? = some cj → cj.isOwn = true → (L2.wipe σ vs)[j]? ≠ some (some (.ref Dl)) := (sx1.wipe vs).noRef n1
  have wk' : ∀ (i : Nat) (Hc : Hp), Sx B O0 (addO own Dl) (L2.wipe σ vs) Hc (wipeE ρ vs) → Same H1 Hc → (∀ d, ds'[i]? = some d → J.go i Hc ∧ ∀ x H', J.yld i Hc x H' → H' = Hc ∧ Rp (hide (uni O0 (addO own Dl)) Hc) x d) ∧ (ds'.length ≤ i → J.stop i Hc) := fun i Hc sc s => by
    refine wk (sx1.rebase).o0 i Hc (addO own Dl) (fun a u e => s a u (of_hide e).1) fun p hp => ⟨?_, (sc.ow p hp).2⟩
    rcases addO_or hp with z | z
    · exact hide_in z
    · subst z
      cases w : hide own H1 p with
      | none => rfl
      | some u => rw [(of_hide w).1] at n1; cases n1
  refine ⟨fun i m Hc => m = ds'.length - i ∧ i ≤ ds'.length ∧ Same H1 Hc ∧ Sx B O0 (addO own Dl) (L2.wipe σ vs) Hc (wipeE ρ vs) ∧
      ∃ acc pre, Hc Dl = some (.lst acc) ∧ RpA (hide (uni O0 (addO own Dl)) Hc) acc pre ∧ pre.length ≤ i ∧ (compGo (compF t vs ec ee ρ) (ds'.drop i)).map (pre ++ ·) = some es, ?_, ?_⟩
  · refine ⟨ds'.length, by simp, Nat.zero_le _, same_new n1, (sx1.wipe vs).owned (same_new n1) n1 upd_same rfl, [], [], upd_same, .nil, Nat.le_refl _, ?_⟩
    rw [List.drop_zero, h2]
    rfl
  · rintro i m Hc ⟨rfl, hi, sc, sxc, acc, pre, hacc, racc, hpre, hgo⟩
    obtain ⟨w1, w2⟩ := wk' i Hc sxc sc
    by_cases c : i < ds'.length
    · right
      obtain ⟨d, hd⟩ : ∃ d, ds'[i]? = some d := ⟨_, List.getElem?_eq_getElem c⟩
      obtain ⟨g1, g2⟩ := w1 d hd
      have hdrop : ds'.drop i = d :: ds'.drop (i + 1) := by
        rw [List.drop_eq_getElem_cons c]
        rw [List.getElem?_eq_getElem c] at hd
        rw [Option.some.inj hd]
      rw [hdrop] at hgo
      obtain ⟨tl, hg1, hg2⟩ := map_some' hgo
      refine ⟨g1, fun H' => i + 1 ≤ ds'.length ∧ Same H1 H' ∧ Sx B O0 (addO own Dl) (L2.wipe σ vs) H' (wipeE ρ vs) ∧
        ∃ acc pre, H' Dl = some (.lst acc) ∧ RpA (hide (uni O0 (addO own Dl)) H') acc pre ∧ pre.length ≤ i + 1 ∧ (compGo (compF t vs ec ee ρ) (ds'.drop (i + 1))).map (pre ++ ·) = some es, fun H' hn => ⟨ds'.length - (i + 1), by omega, rfl, hn⟩, fun x H' hy => ?_⟩
      obtain ⟨e0, rx⟩ := g2 x H' hy
      subst e0
      have hf : ∃ o, compF t vs ec ee ρ d = some o ∧ (match o with
          | none => compGo (compF t vs ec ee ρ) (ds'.drop (i + 1)) = some tl
          | some e => (compGo (compF t vs ec ee ρ) (ds'.drop (i + 1))).map (e :: ·) = some tl) := by
        have hg1' := hg1
        unfold compGo at hg1'
        cases hc : compF t vs ec ee ρ d with
        | none => rw [hc] at hg1'; cases hg1'
        | some o =>
          rw [hc] at hg1'
          cases o with
          | none => exact ⟨none, rfl, hg1'⟩
          | some e => exact ⟨some e, rfl, hg1'⟩
      obtain ⟨o, ho, hrest⟩ := hf
      unfold compF at ho
      obtain ⟨ρ1, ha, hb⟩ := bind1 ho
      obtain ⟨k, hk, hc2⟩ := bind1 hb
      refine ⟨B, O0, addO own Dl, _, d, ρ1, sxc, rx, ha, fun σ2 sx2 hw => ⟨?_, B, O0, addO own Dl, ρ1, k, sx2, hk, fun H3 s3 => ?_⟩⟩
      · rw [hw vs hin, wipe_wipe vs vs fun _ h => h]
      · have sxc3 := sxc.up s3
        cases k with
        | false =>
          have z := Option.some.inj (show some none = some o from hc2)
          subst z
          refine ⟨c, sc.trans s3, sxc3, acc, pre, s3 Dl _ hacc, racc.up s3, by omega, ?_⟩
          rw [hrest]
          exact congrArg some hg2
        | true =>
          obtain ⟨e, he, z⟩ := map_some' (show (ee ρ1).map some = some o from hc2)
          subst z
          refine ⟨B, O0, addO own Dl, ρ1, e, sx2.up s3, he, fun y H4 s4 ry => ⟨acc, s4 Dl _ (s3 Dl _ hacc), ?_, ?_⟩⟩
          · have := pair_len racc
            omega
          · have s34 : Same H' H4 := s3.trans s4
            have sx4 := sxc.up s34
            have op : addO own Dl Dl = true := addO_at
            have hh : hide (uni O0 (addO own Dl)) (upd H4 Dl (.lst (acc ++ [y]))) = hide (uni O0 (addO own Dl)) H4 := by
              funext a
              unfold hide
              by_cases z : a = Dl
              · subst z
                rw [uni_r op]
                rfl
              · rw [upd_ne z]
            refine ⟨c, fun a u e => ?_, sx4.writeFree op free rfl, acc ++ [y], pre ++ [e], upd_same, ?_, ?_, ?_⟩
            · have ne : a ≠ Dl := ne_of_none e n1
              rw [upd_ne ne]
              exact s34 a u (sc a u e)
            · rw [hh]
              exact pair_app (racc.up s34) (.cons ry .nil)
            · rw [List.length_append]
              simp
              omega
            · obtain ⟨tl2, ht1, ht2⟩ := map_some' (show (compGo (compF t vs ec ee ρ) (ds'.drop (i + 1))).map (e :: ·) = some tl from hrest)
              rw [ht1]
              show some (pre ++ [e] ++ tl2) = some es
              rw [← hg2, ← ht2, List.append_assoc]
              rfl
    · left
      have ei : i = ds'.length := by omega
      refine ⟨w2 (by omega), ?_⟩
      have hnil : ds'.drop i = [] := List.drop_eq_nil_of_le (by omega)
      rw [hnil] at hgo
      have z : pre = es := by
        have := Option.some.inj (show some (pre ++ []) = some es from hgo)
        rw [List.append_nil] at this
        exact this
      subst z
      rw [uni_add] at racc
      exact q Dl acc Hc (fresh_up s1 n1) (s1.trans sc) hacc racc
theorem comp_read {t : Tg} {vs : List Nat} {ei : EnvD → Option (List D)} {ec : EnvD → Option Bool} {ee : EnvD → Option D} (hin : tgIn vs t = true) {σ : L2.St} {H : Hp} {Q : VK} :
    tFv (fun ρ => ((ei ρ).bind lenOk).bind (compGo (compF t vs ec ee ρ))) σ H Q → tLc (tIv ei) (tGv t) (tTv ec) (tEv ee) vs σ H Q := fun ⟨B, O0, own, ρ, es, sx, ev, q⟩ => by
  obtain ⟨ds, h1, h2⟩ := bind1 ev
  obtain ⟨ds', h3, h4⟩ := bind1 h1
  obtain ⟨hz, z⟩ := ite_some h4
  subst z
  exact comp_core hin sx hz h2 (fun R r => ⟨B, O0, own, ρ, ds', sx, h3, r⟩) q

/-! ### a dict walked: locked -/
/-- a dict of either kind of keys, as an object -/
def isDict : HO → Bool
  | .dK _ => true
  | .dT _ => true
  | _ => false
theorem sub_lock {O : Own} {H : Hp} {d : Addr} {od : Obj} {u : HO} (h : H d = some u) (hu : isDict u = true) : Sub (hide O H) (hide O (upd H d (.frz od u))) := by
  have key : ∀ (a : Addr) (v : HO), Rd (hide O H) a v → (v = u ∨ a ≠ d) → Rd (hide O (upd H d (.frz od u))) a v := by
    intro a v hv hc
    by_cases e : a = d
    · subst e
      have ev : v = u := by
        rcases hc with z | z
        · exact z
        · exact absurd rfl z
      subst ev
      have ho : O a = false := by
        rcases hv with z | ⟨o, z⟩
        · exact (of_hide z).2
        · exact (of_hide z).2
      right
      exact ⟨od, by rw [hide_out ho, upd_same]⟩
    · have e2 : hide O (upd H d (.frz od u)) a = hide O H a := by unfold hide; rw [upd_ne e]
      unfold Rd
      rw [e2]
      exact hv
  have same : ∀ {a : Addr} {v : HO}, Rd (hide O H) a v → a = d → v = u := by
    intro a v hv e
    subst e
    rcases hv with z | ⟨o, z⟩
    · have y := (of_hide z).1
      rw [h] at y
      exact (Option.some.inj y).symm
    · have y := (of_hide z).1
      rw [h] at y
      have y := Option.some.inj y
      subst y
      cases hu
  refine ⟨fun a xs hv => key a _ hv ?_, fun a xs hv => ?_, fun a ks hv => key a _ hv ?_, fun a ks hv => key a _ hv ?_⟩
  · by_cases e : a = d
    · exact .inl (same hv e)
    · exact .inr e
  · obtain ⟨h1, h2⟩ := of_hide hv
    have ne : a ≠ d := fun e => by
      subst e
      rw [h] at h1
      have y := Option.some.inj h1
      subst y
      cases hu
    rw [hide_out h2, upd_ne ne]
    exact h1
  · by_cases e : a = d
    · exact .inl (same hv e)
    · exact .inr e
  · by_cases e : a = d
    · exact .inl (same hv e)
    · exact .inr e
theorem sub_unlock {O : Own} {H : Hp} {d : Addr} {od : Obj} {u : HO} (h : H d = some (.frz od u)) (hu : isDict u = true) : Sub (hide O H) (hide O (upd H d u)) := by
  have key : ∀ (a : Addr) (v : HO), (∀ o w, v ≠ .frz o w) → Rd (hide O H) a v → Rd (hide O (upd H d u)) a v := by
    intro a v nf hv
    by_cases e : a = d
    · subst e
      rcases hv with z | ⟨o, z⟩
      · obtain ⟨y, _⟩ := of_hide z
        rw [h] at y
        exact absurd (Option.some.inj y).symm (nf _ _)
      · obtain ⟨y, ho⟩ := of_hide z
        rw [h] at y
        cases y
        left
        rw [hide_out ho, upd_same]
    · have e2 : hide O (upd H d u) a = hide O H a := by unfold hide; rw [upd_ne e]
      unfold Rd
      rw [e2]
      exact hv
  refine ⟨fun a xs hv => key a _ (fun _ _ z => by cases z) hv, fun a xs hv => ?_, fun a ks hv => key a _ (fun _ _ z => by cases z) hv, fun a ks hv => key a _ (fun _ _ z => by cases z) hv⟩
  obtain ⟨h1, h2⟩ := of_hide hv
  have ne : a ≠ d := fun e => by
    subst e
    rw [h] at h1
    cases h1
  rw [hide_out h2, upd_ne ne]
  exact h1
/-- the base while d is locked -/
def lockB (B : Hp) (d : Addr) (o : HO) : Hp := fun a => if a = d then (if (B d).isSome then some o else none) else B a
section
variable {B H : Hp} {O0 own : Own} {σ : L2.St} {ρ : EnvD} {d : Addr} {od : Obj} {u : HO}
theorem Sx.lock (h : Sx B O0 own σ H ρ) (hd : H d = some u) (hu : isDict u = true) (vis : uni O0 own d = false) : Sx (lockB B d (.frz od u)) O0 own σ (upd H d (.frz od u)) ρ where
  base := fun a o e => by
    unfold lockB at e
    by_cases c : a = d
    · subst c
      rw [if_pos rfl] at e
      rw [upd_same]
      split at e
      · exact e
      · cases e
    · rw [if_neg c] at e
      rw [upd_ne c]
      exact h.base a o e
  o0 := fun p hp => by
    obtain ⟨w, h1, h2⟩ := h.o0 p hp
    have ne : p ≠ d := fun z => by
      subst z
      rw [uni_l hp] at vis
      cases vis
    exact ⟨w, by unfold lockB; rw [if_neg ne]; exact h1, h2⟩
  ow := fun p hp => by
    have ne : p ≠ d := fun z => by
      subst z
      rw [uni_r hp] at vis
      cases vis
    obtain ⟨h1, h2⟩ := h.ow p hp
    refine ⟨by unfold lockB; rw [if_neg ne]; exact h1, ?_⟩
    rw [upd_ne ne]
    exact h2
  len := h.len
  cell := fun i c hc => (h.cell i c hc).to (sub_lock hd hu) fun p w o _ _ hw => ⟨o, by
    have ne : p ≠ d := fun z => by
      subst z
      rw [uni_r o] at vis
      cases vis
    rw [upd_ne ne]
    exact hw⟩
  dis := h.dis
theorem lockB_back {H' : Hp} (hd : ∀ w, B d = some w → w = u) (s : Same (lockB B d (.frz od u)) H') : Same B (upd H' d u) := fun a o e => by
  by_cases c : a = d
  · subst c
    rw [upd_same, hd o e]
  · rw [upd_ne c]
    exact s a o (by unfold lockB; rw [if_neg c]; exact e)
/-- what the walk of a locked dict asks -/
def tKv (i : Nat) : TI := fun σ H R => ∃ B O0 own ρ kvs d, Sx B O0 own σ H ρ ∧ cellD ρ i = some (.dict kvs) ∧ σ[i]? = some (some (.ref d)) ∧ (∃ o u, H d = some (.frz o u)) ∧ uni O0 own d = false ∧
  ∀ J, Walk J (kvs.map (·.1)) O0 (hide own H) → R J H
theorem pi_tK {X : Cx} {tg e : Expr} {i : Nat} (h : PE X e (tVar i)) : PI X tg e (tKv i) := by
  refine PI.by (pi_keys h) fun σ H R ⟨B, O0, own, ρ, kvs, d, sx, hc, hs, ⟨o, u, hl⟩, vis, q⟩ => ?_
  refine ⟨_, hs, d, o, rfl, ?_⟩
  obtain ⟨v, h1, h2⟩ := sx.cell i _ (cellD_of hc)
  rw [hs] at h1
  have z := Option.some.inj (Option.some.inj h1)
  subst z
  have own_n : own d = false := by
    cases w : own d with
    | false => rfl
    | true => rw [uni_r w] at vis; cases vis
  have there : ∀ (H2 : Hp), Same (hide own H) H2 → H2 d = some (.frz o u) := fun H2 s => s d _ (by rw [hide_out own_n]; exact hl)
  cases h2 with
  | dK g1 g2 g3 =>
    rename_i ks
    have eu : u = .dK ks := by
      rcases g1 with z | ⟨o', z⟩
      · have y := (of_hide z).1
        rw [hl] at y
        cases y
      · have y := (of_hide z).1
        rw [hl] at y
        cases y
        rfl
    subst eu
    refine .inl ⟨ks, hl, q _ fun o0 j H2 own2 s ow => ?_⟩
    have hlen : (kvs.map (·.1)).length = ks.length := by rw [g2, List.length_map]
    refine ⟨fun dd hd => ?_, fun hle => ⟨there H2 s, by rw [hlen] at hle; exact hle⟩⟩
    have hj : j < ks.length := by rw [← hlen]; exact (List.getElem?_eq_some_iff.mp hd).1
    refine ⟨⟨there H2 s, hj⟩, fun x H3 ⟨e, k, v, hk, ex⟩ => ⟨e, ?_⟩⟩
    subst ex
    rw [g2, List.getElem?_map, hk] at hd
    have z := Option.some.inj hd
    subst z
    cases k with
    | inl i => exact .int i
    | inr x => exact .str x
  | dT g1 g2 g3 =>
    rename_i ks
    have eu : u = .dT ks := by
      rcases g1 with z | ⟨o', z⟩
      · have y := (of_hide z).1
        rw [hl] at y
        cases y
      · have y := (of_hide z).1
        rw [hl] at y
        cases y
        rfl
    subst eu
    refine .inr ⟨ks, hl, q _ fun o0 j H2 own2 s ow => ?_⟩
    have hlen : (kvs.map (·.1)).length = ks.length := by rw [g2, List.length_map]
    refine ⟨fun dd hd => ?_, fun hle => ⟨there H2 s, by rw [hlen] at hle; exact hle⟩⟩
    have hj : j < ks.length := by rw [← hlen]; exact (List.getElem?_eq_some_iff.mp hd).1
    refine ⟨⟨there H2 s, hj⟩, fun x H3 ⟨e, k, v, b, hk, ex, hb⟩ => ⟨e, ?_⟩⟩
    subst ex
    rw [g2, List.getElem?_map, hk] at hd
    have z := Option.some.inj hd
    subst z
    have visb : uni O0 own2 b = false := by
      cases w : uni O0 own2 b with
      | false => rfl
      | true =>
        rcases uni_or w with w | w
        · obtain ⟨w1, e1, e2⟩ := o0 b w
          rw [s b _ e1] at hb
          cases hb
          cases e2
        · obtain ⟨_, w1, e1, e2⟩ := ow b w
          rw [e1] at hb
          cases hb
          cases e2
    refine .tup (xs := k.map kV) (by rw [hide_out visb]; exact hb) ?_
    clear hk hd
    induction k with
    | nil => exact .nil
    | cons k ks ih =>
      refine .cons ?_ ?_
      · cases k with
        | inl i => exact .int i
        | inr x => exact .str x
      · clear ih hb
        induction ks with
        | nil => exact .nil
        | cons k ks ih2 =>
          refine .cons ?_ ih2
          cases k with
          | inl i => exact .int i
          | inr x => exact .str x
end
/-- a comprehension over a dict, in either state -/
theorem compK_core {t : Tg} {vs : List Nat} {i : Nat} {ec : EnvD → Option Bool} {ee : EnvD → Option D} (hin : tgIn vs t = true) {σ : L2.St} {H : Hp} {Q : VK} (h : tFv (fun ρ => (((cellD ρ i).bind keysF).bind lenOk).bind (compGo (compF t vs ec ee ρ))) σ H Q) :
    (∃ d u, H d = some u ∧ Mut (some u) ∧ ∀ od, tLc (tKv i) (tGv t) (tTv ec) (tEv ee) vs σ (upd H d (.frz od u)) fun v H' => H' d = some (.frz od u) ∧ Q v (upd H' d u)) ∨ tLc (tKv i) (tGv t) (tTv ec) (tEv ee) vs σ H Q := by
  obtain ⟨B, O0, own, ρ, es, sx, ev, q⟩ := h
  obtain ⟨ds, h1, h2⟩ := bind1 ev
  obtain ⟨ds', h3, h4⟩ := bind1 h1
  obtain ⟨hz, z⟩ := ite_some h4
  subst z
  obtain ⟨dd, h5, h6⟩ := bind1 h3
  unfold keysF at h6
  split at h6
  · rename_i kvs
    have z := Option.some.inj h6
    subst z
    obtain ⟨v, g1, g2⟩ := sx.cell i _ (cellD_of h5)
    obtain ⟨d, u, ev, hrd, hu⟩ : ∃ d u, v = .ref d ∧ Rd (hide (uni O0 own) H) d u ∧ isDict u = true := by
      cases g2 with
      | dK a _ _ => exact ⟨_, _, rfl, a, rfl⟩
      | dT a _ _ => exact ⟨_, _, rfl, a, rfl⟩
    subst ev
    have vis : uni O0 own d = false := by
      rcases hrd with z | ⟨o, z⟩
      · exact (of_hide z).2
      · exact (of_hide z).2
    rcases hrd with z | ⟨o, z⟩
    · have hd := (of_hide z).1
      have mu : Mut (some u) := by
        cases u <;> first
          | trivial
          | cases hu
      refine .inl ⟨d, u, hd, mu, fun od => ?_⟩
      have sxl := sx.lock (od := od) hd hu vis
      refine comp_core hin sxl hz h2 (fun R r => ⟨_, O0, own, ρ, kvs, d, sxl, h5, g1, ⟨od, u, upd_same⟩, vis, fun J w => r J _ (Same.refl _) w⟩) fun p xs H' n s1 hp rr => ?_
      have hd' : H' d = some (.frz od u) := s1 d _ upd_same
      have np : p ≠ d := fun z => by
        subst z
        rw [upd_same] at n
        cases n
      refine ⟨hd', q p xs _ (by rw [← n, upd_ne np]) (fun a w e => ?_) (by rw [upd_ne np]; exact hp) (RpA.mono (sub_unlock hd' hu) _ _ rr)⟩
      by_cases c : a = d
      · subst c
        rw [upd_same, ← hd, e]
      · rw [upd_ne c]
        exact s1 a w (by rw [upd_ne c]; exact e)
    · have hd := (of_hide z).1
      exact .inr (comp_core hin sx hz h2 (fun R r => ⟨B, O0, own, ρ, kvs, d, sx, h5, g1, ⟨o, u, hd⟩, vis, fun J w => r J _ (Same.refl _) w⟩) q)
  · cases h6
theorem compK_pe {X : Cx} {t : Tg} {vs : List Nat} {i : Nat} {ec : EnvD → Option Bool} {ee : EnvD → Option D} {e : Expr} (hin : tgIn vs t = true) (h : PE X e (tLc (tKv i) (tGv t) (tTv ec) (tEv ee) vs)) :
    PE X e (tFv fun ρ => (((cellD ρ i).bind keysF).bind lenOk).bind (compGo (compF t vs ec ee ρ))) := by
  refine ⟨fun pins s σ H Q I q => ?_⟩
  rcases compK_core hin q with w | w
  · exact (pe_lock h).run pins s σ H Q I w
  · exact h.run pins s σ H Q I w
theorem compK_ps {X : Cx} {t : Tg} {vs : List Nat} {i j : Nat} {ec : EnvD → Option Bool} {ee : EnvD → Option D} {st : Stmt} (hin : tgIn vs t = true) (h : PS X st (tAsg (tLc (tKv i) (tGv t) (tTv ec) (tEv ee) vs) (gName j))) :
    PS X st (tAsg (tFv fun ρ => (((cellD ρ i).bind keysF).bind lenOk).bind (compGo (compF t vs ec ee ρ))) (gName j)) := by
  refine ⟨fun pins s σ H Dn I q => ?_⟩
  rcases compK_core hin q with w | w
  · exact (ps_lock h).run pins s σ H Dn I w
  · exact h.run pins s σ H Dn I w
end Fv

set_option Elab.async false
set_option linter.all false
set_option maxRecDepth 100000
set_option autoImplicit false
/-! FvE3: more readings; comprehensions as expressions and as stored. -/
namespace Fv
open PySem L2

section
variable {σ : L2.St} {H : Hp} {Q : VK}
theorem e_call1 {ea : EnvD → Option D} {g : List D → Option D} : tEv (fun ρ => (ea ρ).bind fun d => g [d]) σ H Q → tCB (rL g) (tCons (tEv ea) tNil) σ H Q :=
  fun ⟨B, O0, own, ρ, d, sx, e, q⟩ => by
    obtain ⟨x, h1, h2⟩ := bind1 e
    exact ⟨B, O0, own, ρ, x, sx, h1, fun v H1 s1 r1 => ⟨_, [x], d, (sx.up s1).ook, .cons r1 .nil, h2, fun v' H3 s3 r3 => q v' H3 (s1.trans s3) r3⟩⟩
theorem f_call1 {ea : EnvD → Option D} {g : List D → Option (List D)} : tFv (fun ρ => (ea ρ).bind fun d => g [d]) σ H Q → tCB (rLF g) (tCons (tEv ea) tNil) σ H Q :=
  fun ⟨B, O0, own, ρ, d, sx, e, q⟩ => by
    obtain ⟨x, h1, h2⟩ := bind1 e
    exact ⟨B, O0, own, ρ, x, sx, h1, fun v H1 s1 r1 => ⟨_, [x], d, (sx.up s1).ook, .cons r1 .nil, h2, fun p xs H3 n s3 hp r3 => q p xs H3 (fresh_up s1 n) (s1.trans s3) hp r3⟩⟩
theorem e_and {ea eb : EnvD → Option D} : tEv (fun ρ => (ea ρ).bind fun x => andD x (eb ρ)) σ H Q → tAndV (tEv ea) (tEv eb) σ H Q :=
  fun ⟨B, O0, own, ρ, d, sx, e, q⟩ => by
    obtain ⟨x, h1, h2⟩ := bind1 e
    unfold andD at h2
    split at h2
    · refine ⟨B, O0, own, ρ, _, sx, h1, fun v H1 s1 r1 => ?_⟩
      cases r1
      exact ⟨true, rfl, B, O0, own, ρ, d, sx.up s1, h2, fun v' H3 s3 r3 => q v' H3 (s1.trans s3) r3⟩
    · have z := Option.some.inj h2
      subst z
      refine ⟨B, O0, own, ρ, _, sx, h1, fun v H1 s1 r1 => ?_⟩
      cases r1
      exact ⟨false, rfl, q _ H1 s1 (.bl _)⟩
    · cases h2
theorem e_or {ea eb : EnvD → Option D} : tEv (fun ρ => (ea ρ).bind fun x => orD x (eb ρ)) σ H Q → tOrV (tEv ea) (tEv eb) σ H Q :=
  fun ⟨B, O0, own, ρ, d, sx, e, q⟩ => by
    obtain ⟨x, h1, h2⟩ := bind1 e
    unfold orD at h2
    split at h2
    · refine ⟨B, O0, own, ρ, _, sx, h1, fun v H1 s1 r1 => ?_⟩
      cases r1
      exact ⟨false, rfl, B, O0, own, ρ, d, sx.up s1, h2, fun v' H3 s3 r3 => q v' H3 (s1.trans s3) r3⟩
    · have z := Option.some.inj h2
      subst z
      refine ⟨B, O0, own, ρ, _, sx, h1, fun v H1 s1 r1 => ?_⟩
      cases r1
      exact ⟨true, rfl, q _ H1 s1 (.bl _)⟩
    · cases h2
theorem e_not {ea : EnvD → Option D} : tEv (fun ρ => (ea ρ).bind notD) σ H Q → tNotV (tEv ea) σ H Q :=
  fun ⟨B, O0, own, ρ, d, sx, e, q⟩ => by
    obtain ⟨x, h1, h2⟩ := bind1 e
    unfold notD at h2
    split at h2
    · have z := Option.some.inj h2
      subst z
      refine ⟨B, O0, own, ρ, _, sx, h1, fun v H1 s1 r1 => ?_⟩
      cases r1
      exact ⟨_, rfl, q _ H1 s1 (.bl _)⟩
    · cases h2
theorem e_chain {ea eb ec : EnvD → Option D} {g g' : D → D → Option Bool} :
    tEv (fun ρ => bind2 (ea ρ) (eb ρ) fun x y => (g x y).bind fun k => cond k ((ec ρ).bind fun z => (g' y z).map .bool) (some (.bool false))) σ H Q →
    tChain (rD fun x y => (g x y).map .bool) (rD fun x y => (g' x y).map .bool) (tEv ea) (tEv eb) (tEv ec) σ H Q :=
  fun ⟨B, O0, own, ρ, d, sx, e, q⟩ => by
    obtain ⟨x, y, h1, h2, h3⟩ := bind2' e
    obtain ⟨k, h4, h5⟩ := bind1 h3
    refine ⟨B, O0, own, ρ, x, sx, h1, fun v H1 s1 r1 => ⟨B, O0, own, ρ, y, sx.up s1, h2, fun u H2 s2 r2 => ?_⟩⟩
    refine ⟨_, x, y, .bool k, ((sx.up s1).up s2).ook, r1.up s2, r2, by show (g x y).map PyData.bool = _; rw [h4]; rfl, fun z H3 s3 r3 => ?_⟩
    cases r3
    refine ⟨k, rfl, ?_⟩
    cases k with
    | true =>
      rw [if_pos rfl]
      obtain ⟨zd, h6, h7⟩ := bind1 h5
      exact ⟨B, O0, own, ρ, zd, ((sx.up s1).up s2).up s3, h6, fun w H4 s4 r4 => ⟨_, y, zd, d, ((((sx.up s1).up s2).up s3).up s4).ook, (r2.up s3).up s4, r4, h7, fun v' H5 s5 r5 => q v' H5 (s1.trans (s2.trans (s3.trans (s4.trans s5)))) r5⟩⟩
    | false =>
      rw [if_neg Bool.false_ne_true]
      have z := Option.some.inj h5
      subst z
      exact q _ H3 (s1.trans (s2.trans s3)) (.bl _)
theorem none_of {H : Hp} {v : V} {d : D} (r : Rp H v d) : decide (v = .non) = isNoneD d := by
  cases r <;> rfl
theorem e_isN {ea : EnvD → Option D} {neg : Bool} : tEv (fun ρ => (ea ρ).map fun d => .bool (xor neg (isNoneD d))) σ H Q → (if neg then tNotN (tEv ea) else tIsN (tEv ea)) σ H Q :=
  fun ⟨B, O0, own, ρ, d, sx, e, q⟩ => by
    obtain ⟨x, h1, h2⟩ := map_some' e
    subst h2
    cases neg with
    | true =>
      refine ⟨B, O0, own, ρ, x, sx, h1, fun v H1 s1 r1 => q _ H1 s1 ?_⟩
      rw [none_of r1]
      cases isNoneD x <;> exact .bl _
    | false =>
      refine ⟨B, O0, own, ρ, x, sx, h1, fun v H1 s1 r1 => q _ H1 s1 ?_⟩
      rw [none_of r1]
      cases isNoneD x <;> exact .bl _
theorem e_oix {K : PySem.W.Frag} {i : Nat} {eb : EnvD → Option D} : tEv (fun ρ => bind2 (cellL ρ i) (eb ρ) oixD) σ H Q → tOp (rIxL K) (tVar i) (tEv eb) σ H Q :=
  fun ⟨B, O0, own, ρ, d, sx, e, q⟩ => by
    obtain ⟨xs, y, h1, h2, h3⟩ := bind2' e
    obtain ⟨p, vs, e1, op, e2, r⟩ := sx.cell i _ (cellL_of h1)
    unfold oixD at h3
    split at h3
    · refine ⟨_, e1, B, O0, own, ρ, _, sx, h2, fun u H2 s2 r2 => ?_⟩
      cases r2
      obtain ⟨v, h4, h5⟩ := at_pair r h3
      exact ⟨p, vs, _, v, rfl, rfl, .of (s2 p _ e2), h4, q v H2 s2 (h5.up s2)⟩
    · cases h3
/-- a slice's bounds -/
def tOv (ev : EnvD → Option (Option Int)) : TO := fun σ H Q => ∃ B O0 own ρ o, Sx B O0 own σ H ρ ∧ ev ρ = some o ∧ ∀ H', Same H H' → Q o H'
theorem o_no {Q : Option Int → Hp → Prop} : tOv (fun _ => some none) σ H Q → tNoPart σ H Q := fun ⟨B, O0, own, ρ, o, sx, e, q⟩ => by
  have z := Option.some.inj e
  subst z
  exact q H (Same.refl _)
theorem o_at {ea : EnvD → Option D} {Q : Option Int → Hp → Prop} : tOv (fun ρ => (ea ρ).bind bndD) σ H Q → tPart (tEv ea) σ H Q := fun ⟨B, O0, own, ρ, o, sx, e, q⟩ => by
  obtain ⟨x, h1, h2⟩ := bind1 e
  unfold bndD at h2
  split at h2
  · have z := Option.some.inj h2
    subst z
    refine ⟨B, O0, own, ρ, _, sx, h1, fun v H1 s1 r1 => ?_⟩
    cases r1
    exact ⟨_, rfl, q H1 s1⟩
  · cases h2
def rSlX : V → Option Int → Option Int → Hp → VK → Prop := fun x lo hi H Q => rSlF slF x lo hi H Q ∨ rSlD slT x lo hi H Q
theorem e_slice {ea : EnvD → Option D} {el eh : EnvD → Option (Option Int)} : tEv (fun ρ => bind3 (ea ρ) (el ρ) (eh ρ) sliceD) σ H Q → tSl rSlX (tEv ea) (tOv el) (tOv eh) σ H Q :=
  fun ⟨B, O0, own, ρ, d, sx, e, q⟩ => by
    obtain ⟨x, lo, hi, h1, h2, h3, h4⟩ := bind3' e
    refine ⟨B, O0, own, ρ, x, sx, h1, fun v H1 s1 r1 => ⟨B, O0, own, ρ, lo, sx.up s1, h2, fun H2 s2 => ⟨B, O0, own, ρ, hi, (sx.up s1).up s2, h3, fun H3 s3 => ?_⟩⟩⟩
    have sx3 := ((sx.up s1).up s2).up s3
    have s123 := s1.trans (s2.trans s3)
    unfold sliceD at h4
    split at h4
    · have z := Option.some.inj h4
      subst z
      refine .inl ⟨_, _, _, sx3.ook, (r1.up s2).up s3, rfl, fun p xs H' n s hp r => q _ H' (s123.trans s) (.lst (.inl ?_) (RpA.mono (same_sub (same_less fun a ha => addO_l ha)) _ _ r))⟩
      rw [hide_out (sx3.ook.new n)]
      exact hp
    · have z := Option.some.inj h4
      subst z
      exact .inr ⟨_, _, _, sx3.ook, (r1.up s2).up s3, rfl, fun v' H' s r => q v' H' (s123.trans s) r⟩
    · cases h4
theorem f_slice {ea : EnvD → Option D} {el eh : EnvD → Option (Option Int)} : tFv (fun ρ => bind3 (ea ρ) (el ρ) (eh ρ) sliceF) σ H Q → tSl (rSlF slF) (tEv ea) (tOv el) (tOv eh) σ H Q :=
  fun ⟨B, O0, own, ρ, d, sx, e, q⟩ => by
    obtain ⟨x, lo, hi, h1, h2, h3, h4⟩ := bind3' e
    refine ⟨B, O0, own, ρ, x, sx, h1, fun v H1 s1 r1 => ⟨B, O0, own, ρ, lo, sx.up s1, h2, fun H2 s2 => ⟨B, O0, own, ρ, hi, (sx.up s1).up s2, h3, fun H3 s3 => ?_⟩⟩⟩
    have sx3 := ((sx.up s1).up s2).up s3
    have s123 := s1.trans (s2.trans s3)
    unfold sliceF at h4
    split at h4
    · have z := Option.some.inj h4
      subst z
      exact ⟨_, _, _, sx3.ook, (r1.up s2).up s3, rfl, fun p xs H' n s hp r => q p xs H' (fresh_up s123 n) (s123.trans s) hp r⟩
    · cases h4
theorem f_rev {K : PySem.W.Frag} {ea : EnvD → Option D} : tFv (fun ρ => (ea ρ).bind revF) σ H Q → tRevL K (tEv ea) σ H Q := fun ⟨B, O0, own, ρ, d, sx, e, q⟩ => by
  obtain ⟨x, h1, h2⟩ := bind1 e
  unfold revF at h2
  split at h2
  · have z := Option.some.inj h2
    subst z
    refine ⟨B, O0, own, ρ, _, sx, h1, fun v H1 s1 r1 => ?_⟩
    cases r1 with
    | lst h3 r3 => exact ⟨_, _, rfl, .inl (rd_of h3), fun p n => q p _ _ (fresh_up s1 n) (s1.trans (same_new n)) upd_same (seenF n (pair_rev r3))⟩
  · cases h2
theorem ty_ne {d : D} (h : notDict d = true) : tyD d ≠ "dict" := by
  cases d with
  | dict _ => cases h
  | none => show "NoneType" ≠ "dict"; decide
  | bool _ => show "bool" ≠ "dict"; decide
  | int _ => show "int" ≠ "dict"; decide
  | str _ => show "str" ≠ "dict"; decide
  | list _ => show "list" ≠ "dict"; decide
  | tuple _ => show "tuple" ≠ "dict"; decide
theorem e_is {t : Ty} {ea : EnvD → Option D} : tEv (fun ρ => ((ea ρ).bind (isTyD t)).map .bool) σ H Q → tCB (rIs t) (tCons (tEv ea) (tCons (tC (.ty t.py)) tNil)) σ H Q := fun ⟨B, O0, own, ρ, d, sx, e, q⟩ => by
  obtain ⟨b, h0, h3⟩ := map_some' e
  obtain ⟨x, h1, h2⟩ := bind1 h0
  obtain ⟨h4, h5⟩ := ite_some h2
  subst h3 h5
  exact ⟨B, O0, own, ρ, x, sx, h1, fun v H1 s1 r1 => ⟨_, v, x, (sx.up s1).ook, rfl, r1, ty_ne h4, q _ H1 s1 (.bl _)⟩⟩
/-- what an owned dict holds -/
theorem lookO_get {B H : Hp} {O0 own : Own} {σ : L2.St} {ρ : EnvD} {i : Nat} {c : Cell} {kd : D} {o : Option D} (sx : Sx B O0 own σ H ρ) (hc : ρ[i]? = some c) (hl : lookO c kd = some o) :
    ∃ p, σ[i]? = some (some (.ref p)) ∧ IsD H p ∧ ∀ H' y, Same H H' → Rp (hide (uni O0 own) H') y kd → (∃ v d, o = some d ∧ DGet H' p y (some v) ∧ Rp (hide (uni O0 own) H') v d) ∨ (o = none ∧ DGet H' p y none) := by
  have hcell := sx.cell i c hc
  unfold lookO at hl
  split at hl
  · obtain ⟨k, hk, hv⟩ := map_some' hl
    obtain ⟨p, ks, e1, op, e2, r⟩ := hcell
    refine ⟨p, e1, .inl ⟨ks, .inl e2⟩, fun H' y s ry => ?_⟩
    have ey : y = kV k := by
      unfold keyOf at hk
      split at hk
      · have z := Option.some.inj hk
        subst z
        cases ry
        rfl
      · have z := Option.some.inj hk
        subst z
        cases ry
        rfl
      · cases hk
    subst ey
    rcases kvd_val (k := k) r with ⟨v, d, h1, h2, h3⟩ | ⟨h1, h2⟩
    · left
      refine ⟨v, d, by rw [← hv, h2], ?_, h3.up s⟩
      have g := DGet.k (k := k) (s p _ e2)
      rw [h1] at g
      exact g
    · right
      refine ⟨by rw [← hv, h2], ?_⟩
      have g := DGet.k (k := k) (s p _ e2)
      rw [h1] at g
      exact g
  · obtain ⟨k, hk, hv⟩ := map_some' hl
    obtain ⟨p, ks, e1, op, e2, r⟩ := hcell
    refine ⟨p, e1, .inr ⟨ks, .inl e2⟩, fun H' y s ry => ?_⟩
    obtain ⟨b, eb, hb⟩ : ∃ b, y = .ref b ∧ H' b = some (.tup (k.map kV)) := by
      unfold tkeyOf at hk
      split at hk
      · rename_i ds
        cases ry with
        | tup h1 r1 =>
          refine ⟨_, rfl, ?_⟩
          have keys : ∀ (ds : List D) (vs : List V) (k : List Key), RpA (hide (uni O0 own) H') vs ds → keysOf ds = some k → vs = k.map kV := by
            intro ds
            induction ds with
            | nil =>
              intro vs k r hk
              cases r
              have z := Option.some.inj hk
              subst z
              rfl
            | cons d ds ih =>
              intro vs k r hk
              unfold keysOf at hk
              split at hk
              · rename_i k1 ks1 h1 h2
                have z := Option.some.inj hk
                subst z
                cases r with
                | cons r1 r2 =>
                  rw [ih _ _ r2 h2, List.map_cons]
                  congr 1
                  unfold keyOf at h1
                  split at h1
                  · have z := Option.some.inj h1
                    subst z
                    cases r1
                    rfl
                  · have z := Option.some.inj h1
                    subst z
                    cases r1
                    rfl
                  · cases h1
              · cases hk
          rw [← keys _ _ _ r1 hk]
          exact (of_hide h1).1
      · cases hk
    subst eb
    rcases kvd_val (k := k) r with ⟨v, d, h1, h2, h3⟩ | ⟨h1, h2⟩
    · left
      refine ⟨v, d, by rw [← hv, h2], ?_, h3.up s⟩
      have g := DGet.t (k := k) (s p _ e2) hb
      rw [h1] at g
      exact g
    · right
      refine ⟨by rw [← hv, h2], ?_⟩
      have g := DGet.t (k := k) (s p _ e2) hb
      rw [h1] at g
      exact g
  · cases hl
theorem e_dget {i : Nat} {ek ed : EnvD → Option D} : tEv (fun ρ => bind3 ρ[i]? (ek ρ) (ed ρ) fun c kd dd => (lookO c kd).map fun o => o.getD dd) σ H Q → tDGet2 (tVar i) (tEv ek) (tEv ed) σ H Q :=
  fun ⟨B, O0, own, ρ, d, sx, e, q⟩ => by
    obtain ⟨c, kd, dd, h1, h2, h3, h4⟩ := bind3' e
    obtain ⟨o, h5, h6⟩ := map_some' h4
    obtain ⟨p, e1, e2, get⟩ := lookO_get sx h1 h5
    refine ⟨_, e1, p, rfl, e2, B, O0, own, ρ, kd, sx, h2, fun y H2 s2 ry => ⟨B, O0, own, ρ, dd, sx.up s2, h3, fun z H3 s3 rz => ?_⟩⟩
    rcases get H3 y (s2.trans s3) (ry.up s3) with ⟨v, d', ho, g, rv⟩ | ⟨ho, g⟩
    · subst ho
      have z' : d' = d := h6
      subst z'
      exact ⟨_, g, q v H3 (s2.trans s3) rv⟩
    · subst ho
      have z' : dd = d := h6
      subst z'
      exact ⟨_, g, q z H3 (s2.trans s3) rz⟩
theorem e_dix {i : Nat} {ek : EnvD → Option D} : tEv (fun ρ => bind2 ρ[i]? (ek ρ) fun c kd => (lookO c kd).bind id) σ H Q → tDGet (tVar i) (tEv ek) σ H Q :=
  fun ⟨B, O0, own, ρ, d, sx, e, q⟩ => by
    obtain ⟨c, kd, h1, h2, h4⟩ := bind2' e
    obtain ⟨o, h5, h6⟩ := bind1 h4
    obtain ⟨p, e1, e2, get⟩ := lookO_get sx h1 h5
    refine ⟨_, e1, B, O0, own, ρ, kd, sx, h2, fun y H2 s2 ry => ?_⟩
    rcases get H2 y s2 ry with ⟨v, d', ho, g, rv⟩ | ⟨ho, g⟩
    · subst ho
      have z' : d' = d := Option.some.inj h6
      subst z'
      exact ⟨p, v, rfl, g, q v H2 s2 rv⟩
    · subst ho
      cases h6
theorem e_din {i : Nat} {neg : Bool} {ek : EnvD → Option D} : tEv (fun ρ => bind2 ρ[i]? (ek ρ) fun c kd => (lookO c kd).map fun o => .bool (xor neg o.isSome)) σ H Q → (if neg then tDNotIn (tEv ek) (tVar i) else tDIn (tEv ek) (tVar i)) σ H Q :=
  fun ⟨B, O0, own, ρ, d, sx, e, q⟩ => by
    obtain ⟨c, kd, h1, h2, h4⟩ := bind2' e
    obtain ⟨o, h5, h6⟩ := map_some' h4
    obtain ⟨p, e1, e2, get⟩ := lookO_get sx h1 h5
    subst h6
    cases neg with
    | true =>
      refine ⟨B, O0, own, ρ, kd, sx, h2, fun y H2 s2 ry => ⟨_, e1, ?_⟩⟩
      rcases get H2 y s2 ry with ⟨v, d', ho, g, rv⟩ | ⟨ho, g⟩
      · subst ho
        exact ⟨p, _, rfl, g, q _ H2 s2 (.bl _)⟩
      · subst ho
        exact ⟨p, _, rfl, g, q _ H2 s2 (.bl _)⟩
    | false =>
      refine ⟨B, O0, own, ρ, kd, sx, h2, fun y H2 s2 ry => ⟨_, e1, ?_⟩⟩
      rcases get H2 y s2 ry with ⟨v, d', ho, g, rv⟩ | ⟨ho, g⟩
      · subst ho
        exact ⟨p, _, rfl, g, q _ H2 s2 (.bl _)⟩
      · subst ho
        exact ⟨p, _, rfl, g, q _ H2 s2 (.bl _)⟩
/-- a dict that is only read -/
theorem keyOf_V {H : Hp} {y : V} {kd : D} {k : Key} (h : keyOf kd = some k) (r : Rp H y kd) : y = kV k := by
  unfold keyOf at h
  split at h
  · have z := Option.some.inj h
    subst z
    cases r
    rfl
  · have z := Option.some.inj h
    subst z
    cases r
    rfl
  · cases h
theorem keysOf_V {H : Hp} : ∀ {ds : List D} {vs : List V} {ks : List Key}, keysOf ds = some ks → RpA H vs ds → vs = ks.map kV
  | [], vs, ks, h, r => by
    cases r
    have z := Option.some.inj h
    subst z
    rfl
  | d :: ds, vs, ks, h, r => by
    unfold keysOf at h
    split at h
    · rename_i k1 ks1 h1 h2
      have z := Option.some.inj h
      subst z
      cases r with
      | cons r1 r2 => rw [keyOf_V h1 r1, keysOf_V h2 r2]; rfl
    · cases h
theorem keyOf_keyD (k : Key) : keyOf (keyD k) = some k := by cases k <;> rfl
theorem keysOf_keyD : ∀ ks : List Key, keysOf (ks.map keyD) = some ks
  | [] => rfl
  | k :: ks => by
    show keysOf (keyD k :: ks.map keyD) = _
    unfold keysOf
    rw [keyOf_keyD, keysOf_keyD ks]
theorem keyB_K {k : Key} {kd : D} (h : keyB (keyD k) kd = true) : keyOf kd = some k := by
  cases k with
  | inl i =>
    cases kd with
    | int j => have e : i = j := by simpa [keyB, keyD] using h
               subst e; rfl
    | _ => cases h
  | inr x =>
    cases kd with
    | str y => have e : x = y := by simpa [keyB, keyD] using h
               subst e; rfl
    | _ => cases h
theorem keyB_K' {k : Key} {kd : D} (h : keyB (keyD k) kd = false) : keyOf kd ≠ some k := by
  intro z
  unfold keyOf at z
  split at z
  · have e := Option.some.inj z
    subst e
    simp [keyB, keyD] at h
  · have e := Option.some.inj z
    subst e
    simp [keyB, keyD] at h
  · cases z
theorem keyB_T {k : List Key} {kd : D} (h : keyB (keyT k) kd = true) : tkeyOf kd = some k := by
  cases kd with
  | tuple ys =>
    simp only [keyB, keyT, keysOf_keyD] at h
    cases hy : keysOf ys with
    | none => simp [hy] at h
    | some b =>
      simp only [hy] at h
      show keysOf ys = some k
      rw [hy, of_decide_eq_true h]
  | _ => cases h
theorem keyB_T' {k : List Key} {kd : D} (h : keyB (keyT k) kd = false) : tkeyOf kd ≠ some k := by
  intro z
  cases kd with
  | tuple ys =>
    have hy : keysOf ys = some k := z
    simp [keyB, keyT, keysOf_keyD, hy] at h
  | _ => cases z
theorem fixK {H : Hp} {kd d : D} : ∀ {ks : List (Key × V)} {kvs : List (D × D)}, kvs.map (·.1) = ks.map (fun p => keyD p.1) → RpA H (ks.map (·.2)) (kvs.map (·.2)) → lookF kvs kd = some d → ∃ k v, keyOf kd = some k ∧ valV ks k = some v ∧ Rp H v d
  | [], [], _, _, h => by cases h
  | [], _ :: _, h, _, _ => by cases h
  | _ :: _, [], h, _, _ => by cases h
  | (k, v) :: ks, (a, b) :: kvs, hk, hr, h => by
    obtain ⟨e1, e2⟩ := List.cons.inj (show a :: kvs.map (·.1) = keyD k :: ks.map (fun p => keyD p.1) from hk)
    cases hr with
    | cons r1 r2 =>
      subst e1
      unfold lookF at h
      rw [List.find?_cons] at h
      cases hb : keyB (keyD k) kd with
      | true =>
        simp only [hb] at h
        have z := Option.some.inj h
        subst z
        exact ⟨k, v, keyB_K hb, by simp [valV], r1⟩
      | false =>
        simp only [hb] at h
        obtain ⟨k', v', h1, h2, h3⟩ := fixK e2 r2 h
        refine ⟨k', v', h1, ?_, h3⟩
        have ne : ¬ k = k' := fun z => by
          subst z
          exact keyB_K' hb h1
        rw [valV_neg ne]
        exact h2
theorem fixT {H : Hp} {kd d : D} : ∀ {ks : List (List Key × V)} {kvs : List (D × D)}, kvs.map (·.1) = ks.map (fun p => keyT p.1) → RpA H (ks.map (·.2)) (kvs.map (·.2)) → lookF kvs kd = some d → ∃ k v, tkeyOf kd = some k ∧ valV ks k = some v ∧ Rp H v d
  | [], [], _, _, h => by cases h
  | [], _ :: _, h, _, _ => by cases h
  | _ :: _, [], h, _, _ => by cases h
  | (k, v) :: ks, (a, b) :: kvs, hk, hr, h => by
    obtain ⟨e1, e2⟩ := List.cons.inj (show a :: kvs.map (·.1) = keyT k :: ks.map (fun p => keyT p.1) from hk)
    cases hr with
    | cons r1 r2 =>
      subst e1
      unfold lookF at h
      rw [List.find?_cons] at h
      cases hb : keyB (keyT k) kd with
      | true =>
        simp only [hb] at h
        have z := Option.some.inj h
        subst z
        exact ⟨k, v, keyB_T hb, by simp [valV], r1⟩
      | false =>
        simp only [hb] at h
        obtain ⟨k', v', h1, h2, h3⟩ := fixT e2 r2 h
        refine ⟨k', v', h1, ?_, h3⟩
        have ne : ¬ k = k' := fun z => by
          subst z
          exact keyB_T' hb h1
        rw [valV_neg ne]
        exact h2
theorem e_fix {ea ek : EnvD → Option D} : tEv (fun ρ => bind2 (ea ρ) (ek ρ) fixD) σ H Q → tDGet (tEv ea) (tEv ek) σ H Q :=
  fun ⟨B, O0, own, ρ, d, sx, e, q⟩ => by
    obtain ⟨dd, kd, h1, h2, h4⟩ := bind2' e
    unfold fixD at h4
    split at h4
    · refine ⟨B, O0, own, ρ, _, sx, h1, fun v H1 s1 r1 => ⟨B, O0, own, ρ, kd, sx.up s1, h2, fun y H2 s2 ry => ?_⟩⟩
      cases r1 with
      | dK g1 g2 g3 =>
        obtain ⟨k, v', k1, k2, k3⟩ := fixK g2 g3 h4
        have ey := keyOf_V k1 ry
        subst ey
        exact ⟨_, v', rfl, .inl ⟨_, k, rd_same s2 (rd_of g1), rfl, k2.symm⟩, q v' H2 (s1.trans s2) (k3.up s2)⟩
      | dT g1 g2 g3 =>
        obtain ⟨k, v', k1, k2, k3⟩ := fixT g2 g3 h4
        unfold tkeyOf at k1
        split at k1
        · cases ry with
          | tup t1 t2 =>
            rw [keysOf_V k1 t2] at t1
            exact ⟨_, v', rfl, .inr ⟨_, k, _, rd_same s2 (rd_of g1), rfl, (of_hide t1).1, k2.symm⟩, q v' H2 (s1.trans s2) (k3.up s2)⟩
        · cases k1
    · cases h4
end
end Fv

set_option Elab.async false
set_option linter.all false
set_option maxRecDepth 100000
set_option autoImplicit false
/-! FvE4: what the look accepts, the evaluator tells: all expressions. -/
namespace Fv
open PySem L2

section
variable {M : Md} {Γ : Ctx} {X : Cx}
theorem mA_cons {a : Ex} {r : As} {e : Expr} {es : List Expr} (h : mA Γ (.cons a r) (e :: es) = true) : noStar e = true ∧ mE Γ a e = true ∧ mA Γ r es = true := by
  have h' : (noStar e && mE Γ a e && mA Γ r es) = true := h
  simp only [Bool.and_eq_true] at h'
  exact ⟨h'.1.1, h'.1.2, h'.2⟩
theorem stars {es : List Expr} {as : As} {pos : Pos} {env : Env} (h : mA Γ as es = true) : (backTo pos (starEach es env)).any (·.1) = false := by
  induction es generalizing as with
  | nil => rfl
  | cons e es ih =>
    cases as with
    | nil => cases h
    | cons a r =>
      obtain ⟨h1, _, h3⟩ := mA_cons h
      rw [star1 h1]
      have := ih h3
      simp only [backTo, List.map_cons, List.any_cons, Bool.false_or] at this ⊢
      exact this
theorem FnAt.get (ok : CxOk M Γ X) {x : Str} {sp : Sp} (h : FnAt M x sp) : ∃ f fd ps, X.mg x = some (.ref f) ∧ PySem.W.keepIn X.K (.ref f) = true ∧ GnOk X.prog X.w X.K X.mg X.base M.k f fd ps sp ∧ Binds X.K fd ps [] := by
  obtain ⟨f, fd, ps, h1, h2, h3, h4⟩ := h
  rw [ok.prog, ok.w, ok.K, ok.mg, ok.base]
  exact ⟨f, fd, ps, h1, h2, h3, h4⟩
theorem nomarks (op : Cop) (b : Expr) : behindInMarks op.py b = false := by
  cases op <;> exact nobehind b (by decide) (by decide)
theorem and_pw {e1 e2 : Expr} {rest : List Expr} {pos : Pos} {ea eb : EnvD → Option Bool} (ha : PT X e1 (tTv ea)) (hb1 : rest = [] → PT X e2 (tTv eb)) (hb2 : rest ≠ [] → PW X (.BoolOp .And (e2 :: rest) pos) (tTv eb)) :
    PW X (.BoolOp .And (e1 :: e2 :: rest) pos) (tTv fun ρ => (ea ρ).bind fun k => cond k (eb ρ) (some false)) := by
  have hb : PW X (.BoolOp .And (e2 :: rest) pos) (tTv eb) := by
    cases rest with
    | nil => exact pw_and1 (hb1 rfl)
    | cons _ _ => exact hb2 (by simp)
  refine PW.by (pw_and ha hb) fun σ H Q ⟨B, O0, own, ρ, b, sx, e, q⟩ => ?_
  obtain ⟨k, h1, h2⟩ := bind1 e
  refine ⟨B, O0, own, ρ, k, sx, h1, fun H1 s1 => ?_⟩
  cases k with
  | true =>
    rw [if_pos rfl]
    exact ⟨B, O0, own, ρ, b, sx.up s1, h2, fun H2 s2 => q H2 (s1.trans s2)⟩
  | false =>
    rw [if_neg Bool.false_ne_true]
    have z := Option.some.inj h2
    subst z
    exact q H1 s1
theorem or_pw {e1 e2 : Expr} {rest : List Expr} {pos : Pos} {ea eb : EnvD → Option Bool} (ha : PT X e1 (tTv ea)) (hb1 : rest = [] → PT X e2 (tTv eb)) (hb2 : rest ≠ [] → PW X (.BoolOp .Or (e2 :: rest) pos) (tTv eb)) :
    PW X (.BoolOp .Or (e1 :: e2 :: rest) pos) (tTv fun ρ => (ea ρ).bind fun k => cond k (some true) (eb ρ)) := by
  have hb : PW X (.BoolOp .Or (e2 :: rest) pos) (tTv eb) := by
    cases rest with
    | nil => exact pw_or1 (hb1 rfl)
    | cons _ _ => exact hb2 (by simp)
  refine PW.by (pw_or ha hb) fun σ H Q ⟨B, O0, own, ρ, b, sx, e, q⟩ => ?_
  obtain ⟨k, h1, h2⟩ := bind1 e
  refine ⟨B, O0, own, ρ, k, sx, h1, fun H1 s1 => ?_⟩
  cases k with
  | true =>
    rw [if_pos rfl]
    have z := Option.some.inj h2
    subst z
    exact q H1 s1
  | false =>
    rw [if_neg Bool.false_ne_true]
    exact ⟨B, O0, own, ρ, b, sx.up s1, h2, fun H2 s2 => q H2 (s1.trans s2)⟩
theorem and_pe {e1 e2 : Expr} {rest : List Expr} {pos : Pos} {ta tb : TE} (ha : PE X e1 ta) (hb1 : rest = [] → PE X e2 tb) (hb2 : rest ≠ [] → PE X (.BoolOp .And (e2 :: rest) pos) tb) : PE X (.BoolOp .And (e1 :: e2 :: rest) pos) (tAndV ta tb) := by
  refine pe_and ha ?_
  cases rest with
  | nil => exact pe_one (hb1 rfl)
  | cons _ _ => exact hb2 (by simp)
theorem or_pe {e1 e2 : Expr} {rest : List Expr} {pos : Pos} {ta tb : TE} (ha : PE X e1 ta) (hb1 : rest = [] → PE X e2 tb) (hb2 : rest ≠ [] → PE X (.BoolOp .Or (e2 :: rest) pos) tb) : PE X (.BoolOp .Or (e1 :: e2 :: rest) pos) (tOrV ta tb) := by
  refine pe_or ha ?_
  cases rest with
  | nil => exact pe_one (hb1 rfl)
  | cons _ _ => exact hb2 (by simp)
theorem never_t {e : Expr} : PT X e (tTv fun _ => none) := ⟨fun _ _ _ _ _ _ ⟨_, _, _, _, _, _, e, _⟩ => nomatch e⟩
theorem rest_c {rest : List Expr} {p q : Bool} (h : cond rest.isEmpty p q = true) : (rest = [] → p = true) ∧ (rest ≠ [] → q = true) := by
  cases rest with
  | nil => exact ⟨fun _ => h, fun z => absurd rfl z⟩
  | cons c r => exact ⟨fun z => (nomatch z), fun _ => h⟩
/-! shapes -/
theorem asConst_eq {e : Expr} {c : Const} (h : asConst e = some c) : ∃ k p, e = .Constant c k p := by
  unfold asConst at h; split at h <;> first | (cases h; exact ⟨_, _, rfl⟩) | cases h
theorem asBin_eq {e a b : Expr} {o : Operator} (h : asBin e = some (a, o, b)) : ∃ p, e = .BinOp a o b p := by
  unfold asBin at h; split at h <;> first | (cases h; exact ⟨_, rfl⟩) | cases h
theorem asUn_eq {e a : Expr} {o : UnaryOp} (h : asUn e = some (o, a)) : ∃ p, e = .UnaryOp o a p := by
  unfold asUn at h; split at h <;> first | (cases h; exact ⟨_, rfl⟩) | cases h
theorem asBool_eq {e a b : Expr} {o : BoolOp} {r : List Expr} {p : Pos} (h : asBool e = some (o, a, b, r, p)) : e = .BoolOp o (a :: b :: r) p := by
  unfold asBool at h; split at h <;> first | (cases h; rfl) | cases h
theorem asCmp1_eq {e a b : Expr} {o : CmpOp} (h : asCmp1 e = some (a, o, b)) : ∃ p, e = .Compare a [o] [b] p := by
  unfold asCmp1 at h; split at h <;> first | (cases h; exact ⟨_, rfl⟩) | cases h
theorem asCmp2_eq {e a b c : Expr} {o o' : CmpOp} (h : asCmp2 e = some (a, o, o', b, c)) : ∃ p, e = .Compare a [o, o'] [b, c] p := by
  unfold asCmp2 at h; split at h <;> first | (cases h; exact ⟨_, rfl⟩) | cases h
theorem asSub_eq {e a b : Expr} (h : asSub e = some (a, b)) : ∃ p, e = .Subscript a b p := by
  unfold asSub at h; split at h <;> first | (cases h; exact ⟨_, rfl⟩) | cases h
theorem asTup_eq {e : Expr} {es : List Expr} (h : asTup e = some es) : ∃ k p, e = .Tuple es k p := by
  unfold asTup at h; split at h <;> first | (cases h; exact ⟨_, _, rfl⟩) | cases h
theorem asLst_eq {e : Expr} {es : List Expr} (h : asLst e = some es) : ∃ p, e = .List es p := by
  unfold asLst at h; split at h <;> first | (cases h; exact ⟨_, rfl⟩) | cases h
theorem asCall_eq {e f a : Expr} {es : List Expr} (h : asCall e = some (f, a, es)) : ∃ p, e = .Call f (a :: es) [] p := by
  unfold asCall at h; split at h <;> first | (cases h; exact ⟨_, rfl⟩) | cases h
theorem asCall1_eq {e f a : Expr} (h : asCall1 e = some (f, a)) : ∃ p, e = .Call f [a] [] p := by
  unfold asCall1 at h; split at h <;> first | (cases h; exact ⟨_, rfl⟩) | cases h
theorem asCall2_eq {e f a b : Expr} (h : asCall2 e = some (f, a, b)) : ∃ p, e = .Call f [a, b] [] p := by
  unfold asCall2 at h; split at h <;> first | (cases h; exact ⟨_, rfl⟩) | cases h
theorem asCall3_eq {e f a b c : Expr} (h : asCall3 e = some (f, a, b, c)) : ∃ p, e = .Call f [a, b, c] [] p := by
  unfold asCall3 at h; split at h <;> first | (cases h; exact ⟨_, rfl⟩) | cases h
theorem asSlice_eq {e : Expr} {lo hi : Option Expr} (h : asSlice e = some (lo, hi)) : ∃ p, e = .Slice lo hi none p := by
  unfold asSlice at h; split at h <;> first | (cases h; exact ⟨_, rfl⟩) | cases h
theorem isM1_eq {e : Expr} (h : isM1 e = true) : ∃ k p p2, e = .UnaryOp .USub (.Constant (.int 1) k p) p2 := by
  unfold isM1 at h; split at h
  · have z := eq_of_beq h; subst z; exact ⟨_, _, _, rfl⟩
  · cases h
theorem isRevS_eq {e : Expr} (h : isRevS e = true) : ∃ k p p2 p3, e = .Slice none none (some (.UnaryOp .USub (.Constant (.int 1) k p) p2)) p3 := by
  unfold isRevS at h; split at h
  · obtain ⟨k, p, p2, z⟩ := isM1_eq h; subst z; exact ⟨_, _, _, _, rfl⟩
  · cases h
theorem isNoneE_eq {e : Expr} (h : isNoneE e = true) : ∃ k p, e = .Constant .none k p := by
  unfold isNoneE at h; split at h <;> first | exact ⟨_, _, rfl⟩ | cases h
theorem asComp_eq {e elt tg iter : Expr} {ifs : List Expr} {scope : Scope} (h : asComp e = some (elt, tg, iter, ifs, scope)) : ∃ p, e = .ListComp elt [⟨tg, iter, ifs, 0⟩] scope p := by
  unfold asComp at h; split at h
  · obtain ⟨a, b⟩ := ite_some h
    have z := eq_of_beq a; subst z; cases b; exact ⟨_, rfl⟩
  · cases h
theorem asMe0_eq {e o : Expr} {m : Str} (h : asMe0 e = some (o, m)) : ∃ apos cpos, e = .Call (.Attribute o m apos) [] [] cpos ∧ (apos.endLine == cpos.line) = true := by
  unfold asMe0 at h; split at h
  · obtain ⟨a, b⟩ := ite_some h
    cases b; exact ⟨_, _, rfl, a⟩
  · cases h
theorem asMe1_eq {e o x : Expr} {m : Str} (h : asMe1 e = some (o, m, x)) : ∃ apos cpos, e = .Call (.Attribute o m apos) [x] [] cpos ∧ (apos.endLine == cpos.line) = true := by
  unfold asMe1 at h; split at h
  · obtain ⟨a, b⟩ := ite_some h
    cases b; exact ⟨_, _, rfl, a⟩
  · cases h
theorem asMe2_eq {e o x y : Expr} {m : Str} (h : asMe2 e = some (o, m, x, y)) : ∃ apos cpos, e = .Call (.Attribute o m apos) [x, y] [] cpos ∧ (apos.endLine == cpos.line) = true := by
  unfold asMe2 at h; split at h
  · obtain ⟨a, b⟩ := ite_some h
    cases b; exact ⟨_, _, rfl, a⟩
  · cases h
theorem asNm_eq {e : Expr} {x : Str} (h : asNm e = some x) : ∃ p, e = .Name x p := by
  unfold asNm at h; split at h <;> first | (cases h; exact ⟨_, rfl⟩) | cases h

/-- a comprehension: as an expression, and stored in a name -/
def AsgOk (X : Cx) (Γ : Ctx) (v : Expr) (t : TE) : Prop := ∀ (i : Nat) (tg : Expr) (pos : Pos), wrB Γ i tg = true → PS X (.Assign [tg] v pos) (tAsg t (gName i))
theorem AsgOk.by {v : Expr} {t t' : TE} (h : AsgOk X Γ v t) (i : ∀ σ H Q, t' σ H Q → t σ H Q) : AsgOk X Γ v t' := fun j tg pos hw => PS.by (h j tg pos hw) fun Dn σ H q => i σ H _ q
theorem swaps_no {v tg : Expr} {l : Nat} {env : Env} (h : noComp v = true) : swapsWith v (some tg) l env = pure false := by
  cases v <;> first
    | rfl
    | cases h
theorem swaps_none {v : Expr} {l : Nat} {env : Env} (h : noComp v = true) : swapsWith v none l env = pure false := by
  cases v <;> first
    | rfl
    | cases h
theorem asg_plain (ok : CxOk M Γ X) {v : Expr} {t : TE} (n : noComp v = true) (h : PE X v t) : AsgOk X Γ v t := fun i tg pos hw => by
  unfold wrB at hw
  split at hw
  · rw [Bool.and_eq_true] at hw
    obtain ⟨a, b⟩ := ok.loc hw.2
    exact ps_set (by rw [ok.N]; exact ok.nd) (ok.at_ hw.1) a h (swaps_no n) b
  · cases hw
theorem own_snd {N : List Str} {vs : List Nat} : (ownOf N vs).map (·.2) = vs := by
  unfold ownOf
  rw [List.map_map]
  induction vs with
  | nil => rfl
  | cons v vs ih => rw [List.map_cons, ih]; rfl
theorem comp_ok (ok : CxOk M Γ X) {vs : List Nat} {t : Tg} {wi : TI} {ec : EnvD → Option Bool} {ee : EnvD → Option D} {elt tg iter : Expr} {ifs : List Expr} {scope : Scope} {pos : Pos} {tt : TE}
    (hb : blkC Γ.N Γ.sc scope (ownOf Γ.N vs) = true) (hset : noSet iter = true)
    (hi : ∀ tg, PI X tg iter wi) (hg : ∀ X', CxOk M (inner Γ scope) X' → PG X' tg (tGv t)) (hc : ∀ X', CxOk M (inner Γ scope) X' → PTs X' ifs (tTv ec)) (he : ∀ X', CxOk M (inner Γ scope) X' → PE X' elt (tEv ee))
    (hE : ∀ e, PE X e (tLc wi (tGv t) (tTv ec) (tEv ee) vs) → PE X e tt) (hS : ∀ st j, PS X st (tAsg (tLc wi (tGv t) (tTv ec) (tEv ee) vs) (gName j)) → PS X st (tAsg tt (gName j))) :
    PE X (.ListComp elt [⟨tg, iter, ifs, 0⟩] scope pos) tt ∧ AsgOk X Γ (.ListComp elt [⟨tg, iter, ifs, 0⟩] scope pos) tt := by
  have bk : BlkOk X.N X.env.scope scope (ownOf Γ.N vs) := by
    rw [ok.N, ok.sc]
    exact blkOk_by hb
  have nd : X.N.Nodup := by rw [ok.N]; exact ok.nd
  have hk : scope.kind = .function := bk.kind
  have main := pe_lc (pos := pos) ok.calm nd (hi tg) bk (fun s H C cl fp => hg _ (ok.blk hk s H C cl fp)) (fun s H C cl fp => hc _ (ok.blk hk s H C cl fp)) (fun s H C cl fp => he _ (ok.blk hk s H C cl fp)) (set_ix hset)
  rw [own_snd] at main
  have main' := hE _ main
  refine ⟨main', fun i tgt spos hw => ?_⟩
  unfold wrB at hw
  split at hw
  · rename_i y py
    rw [Bool.and_eq_true] at hw
    obtain ⟨a, b⟩ := ok.loc hw.2
    have hN := ok.at_ hw.1
    have hsw : ∃ c : Bool, swapsWith (.ListComp elt [⟨tg, iter, ifs, 0⟩] scope pos) (some (.Name y py)) spos.line X.env = pure c ∧ (c = true → X.env.scope.names.lookup y = some .local) := by
      refine ⟨X.env.blockKind == .function && X.env.kindOf y == some .local && py.line == (Expr.ListComp elt [⟨tg, iter, ifs, 0⟩] scope pos).pos.line && !(scope.names.any fun (n, k) => n == y && (k == .local || k == .cell)), rfl, fun h => ?_⟩
      rw [Bool.and_eq_true, Bool.and_eq_true, Bool.and_eq_true] at h
      exact eq_of_beq h.1.1.2
    obtain ⟨c, hc1, hc2⟩ := hsw
    cases c with
    | false => exact ps_set nd hN a main' hc1 b
    | true =>
      have q := ps_setLc (py := py) (spos := spos) ok.calm nd hN (hc2 rfl) hc1 (hi tg) bk (fun s H C cl fp => hg _ (ok.blk hk s H C cl fp)) (fun s H C cl fp => hc _ (ok.blk hk s H C cl fp)) (fun s H C cl fp => he _ (ok.blk hk s H C cl fp)) (set_ix hset)
      rw [own_snd] at q
      exact hS _ i q
  · cases hw
/-- the two kinds -/
theorem comp_two (ok : CxOk M Γ X) {vs : List Nat} {t : Tg} {ei : EnvD → Option (List D)} {ec : EnvD → Option Bool} {ee : EnvD → Option D} {elt tg iter : Expr} {ifs : List Expr} {scope : Scope} {pos : Pos}
    (hb : blkC Γ.N Γ.sc scope (ownOf Γ.N vs) = true) (hin : tgIn vs t = true) (hset : noSet iter = true)
    (hi : ∀ tg, PI X tg iter (tIv ei)) (hg : ∀ X', CxOk M (inner Γ scope) X' → PG X' tg (tGv t)) (hc : ∀ X', CxOk M (inner Γ scope) X' → PTs X' ifs (tTv ec)) (he : ∀ X', CxOk M (inner Γ scope) X' → PE X' elt (tEv ee)) :
    PE X (.ListComp elt [⟨tg, iter, ifs, 0⟩] scope pos) (tFv fun ρ => ((ei ρ).bind lenOk).bind (compGo (compF t vs ec ee ρ))) ∧
    AsgOk X Γ (.ListComp elt [⟨tg, iter, ifs, 0⟩] scope pos) (tFv fun ρ => ((ei ρ).bind lenOk).bind (compGo (compF t vs ec ee ρ))) :=
  comp_ok ok hb hset hi hg hc he (fun e h => PE.by h fun σ H Q => comp_read hin) fun st j h => PS.by h fun Dn σ H w => comp_read hin w
theorem compK_two (ok : CxOk M Γ X) {vs : List Nat} {t : Tg} {i : Nat} {ec : EnvD → Option Bool} {ee : EnvD → Option D} {elt tg iter : Expr} {ifs : List Expr} {scope : Scope} {pos : Pos}
    (hb : blkC Γ.N Γ.sc scope (ownOf Γ.N vs) = true) (hin : tgIn vs t = true) (hset : noSet iter = true)
    (hi : PE X iter (tVar i)) (hg : ∀ X', CxOk M (inner Γ scope) X' → PG X' tg (tGv t)) (hc : ∀ X', CxOk M (inner Γ scope) X' → PTs X' ifs (tTv ec)) (he : ∀ X', CxOk M (inner Γ scope) X' → PE X' elt (tEv ee)) :
    PE X (.ListComp elt [⟨tg, iter, ifs, 0⟩] scope pos) (tFv fun ρ => (((cellD ρ i).bind keysF).bind lenOk).bind (compGo (compF t vs ec ee ρ))) ∧
    AsgOk X Γ (.ListComp elt [⟨tg, iter, ifs, 0⟩] scope pos) (tFv fun ρ => (((cellD ρ i).bind keysF).bind lenOk).bind (compGo (compF t vs ec ee ρ))) :=
  comp_ok ok hb hset (fun _ => pi_tK hi) hg hc he (fun e h => compK_pe hin h) fun st j h => compK_ps hin h
/-- tests from values -/
theorem t_B {ev : EnvD → Option Bool} {t : TE} (c : ∀ σ H Q, tEv (fun ρ => (ev ρ).map .bool) σ H Q → t σ H Q) {σ : L2.St} {H : Hp} {Q : Bool → Hp → Prop} : tTv ev σ H Q → tB t σ H Q := fun ⟨B, O0, own, ρ, b, sx, e, q⟩ =>
  c σ H _ ⟨B, O0, own, ρ, .bool b, sx, by show (ev ρ).map PyData.bool = _; rw [e]; rfl, fun v H' s r => by cases r; exact ⟨b, rfl, q H' s⟩⟩
theorem val_isN {a : Ex} {neg : Bool} {ρ : EnvD} : (evT (.isN neg a) ρ).map PyData.bool = evE (.isN neg a) ρ := by
  show ((evE a ρ).map fun d => xor neg (isNoneD d)).map PyData.bool = (evE a ρ).map fun d => .bool (xor neg (isNoneD d))
  cases evE a ρ <;> rfl
theorem val_din {k : Ex} {i : Nat} {neg : Bool} {ρ : EnvD} : (evT (.din neg i k) ρ).map PyData.bool = evE (.din neg i k) ρ := by
  show (bind2 ρ[i]? (evE k ρ) fun c kd => (lookO c kd).map fun o => xor neg o.isSome).map PyData.bool = bind2 ρ[i]? (evE k ρ) fun c kd => (lookO c kd).map fun o => .bool (xor neg o.isSome)
  cases ρ[i]? with
  | none => rfl
  | some c =>
    cases evE k ρ with
    | none => rfl
    | some kd =>
      show ((lookO c kd).map fun o => xor neg o.isSome).map PyData.bool = (lookO c kd).map fun o => .bool (xor neg o.isSome)
      cases lookO c kd <;> rfl
theorem t_chain {ea eb ec : EnvD → Option D} {g g' : D → D → Option Bool} {σ : L2.St} {H : Hp} {Q : Bool → Hp → Prop} :
    tTv (fun ρ => bind2 (ea ρ) (eb ρ) fun x y => (g x y).bind fun k => cond k ((ec ρ).bind fun z => g' y z) (some false)) σ H Q →
    tTest (tChain (rD fun x y => (g x y).map .bool) (rD fun x y => (g' x y).map .bool) (tEv ea) (tEv eb) (tEv ec)) σ H Q := fun ⟨B, O0, own, ρ, b, sx, e, q⟩ => by
  refine e_chain ⟨B, O0, own, ρ, .bool b, sx, ?_, fun v H' s r => by cases r; exact ⟨b, rfl, q H' s⟩⟩
  obtain ⟨x, y, h1, h2, h3⟩ := bind2' e
  obtain ⟨k, h4, h5⟩ := bind1 h3
  show bind2 (ea ρ) (eb ρ) _ = _
  rw [h1, h2]
  show (g x y).bind _ = _
  rw [h4]
  cases k with
  | true =>
    obtain ⟨z, h6, h7⟩ := bind1 (show (ec ρ).bind (fun z => g' y z) = some b from h5)
    show (ec ρ).bind _ = _
    rw [h6]
    show (g' y z).map PyData.bool = _
    rw [h7]
    rfl
  | false =>
    have z := Option.some.inj (show some false = some b from h5)
    subst z
    rfl
end
end Fv

set_option Elab.async false
set_option linter.all false
set_option maxRecDepth 100000
set_option autoImplicit false
set_option maxHeartbeats 1600000
/-! FvE5: what the look accepts, the evaluator tells: the one theorem of expressions. -/
namespace Fv
open PySem L2
theorem blt_in {M : Md} {Γ : Ctx} {X : Cx} (ok : CxOk M Γ X) (f : Bfn) : X.mg f.py = none := by
  cases f <;> exact ok.nb (by decide)
theorem bfn_boot (f : Bfn) : bootBuiltins f.py = some (.builtin f.id) := by
  cases f <;> decide +kernel
theorem ty_boot (t : Ty) : bootBuiltins t.nm = some (.type t.py) := by
  cases t <;> decide +kernel
theorem ty_in {M : Md} {Γ : Ctx} {X : Cx} (ok : CxOk M Γ X) (t : Ty) : X.mg t.nm = none := by
  cases t <;> exact ok.nb (by decide)
def tLr (ev : EnvD → Option (List D)) : L2.St → Hp → (Int → Int → Hp → Prop) → Prop := fun σ H Q => ∃ B O0 own ρ ds, Sx B O0 own σ H ρ ∧ ev ρ = some ds ∧ ∀ a b H', Same H H' → ds = rngD a (b - a).toNat → (-(2 ^ 62) ≤ a ∧ a < 2 ^ 62 ∧ -(2 ^ 62) ≤ b ∧ b < 2 ^ 62) → Q a b H'
theorem rg_pair {H : Hp} {a b : Int} : RpA H (rgV a b) (rngD a (b - a).toNat) := by
  unfold rgV rngD
  generalize (b - a).toNat = n
  generalize List.range n = l
  induction l with
  | nil => exact .nil
  | cons x xs ih => exact .cons (.int _) ih
theorem lrng_F {X : Cx} {ev : EnvD → Option (List D)} {e : Expr} {p pos : Pos} {te : L2.St → Hp → (Int → Int → Hp → Prop) → Prop} (hc : X.calm = true) (hg : Gl X "list") (hm : X.mg "list" = none) (n : noStar e = true) (h : PRg X e te) (i : ∀ σ H Q, tLr ev σ H Q → te σ H Q) :
    PE X (.Call (.Name "list" p) [e] [] pos) (tFv fun ρ => (ev ρ).bind rngOk) := by
  refine PE.by (pe_listRg hc hg hm h (star1 n)) fun σ H Q ⟨B, O0, own, ρ, ds, sx, e1, q⟩ => ?_
  obtain ⟨es, h1, h2⟩ := bind1 e1
  obtain ⟨h3, z⟩ := ite_some h2
  subst z
  refine i σ H _ ⟨B, O0, own, ρ, es, sx, h1, fun a b H1 s1 ed bd => ⟨⟨bd.1, bd.2.1, bd.2.2.1, bd.2.2.2, by rw [ed, rngD_len] at h3; exact h3⟩, fun p np => ?_⟩⟩
  subst ed
  exact q p _ _ (fresh_up s1 np) (s1.trans (same_new np)) upd_same (seenF np rg_pair)
def GE (M : Md) (a : Ex) : Prop := (∀ (Γ : Ctx) (X : Cx) (e : Expr), CxOk M Γ X → mE Γ a e = true → fE M a → PE X e (tEv (evE a))) ∧
  (∀ (Γ : Ctx) (X : Cx) (e : Expr), CxOk M Γ X → mE Γ a e = true → fE M a → PT X e (tTv (evT a))) ∧
  (∀ (Γ : Ctx) (X : Cx) (op : BoolOp) (vs : List Expr) (pos : Pos), CxOk M Γ X → mE Γ a (.BoolOp op vs pos) = true → fE M a → PW X (.BoolOp op vs pos) (tTv (evT a)))
def GA (M : Md) (a : As) : Prop := ∀ (Γ : Ctx) (X : Cx) (es : List Expr), CxOk M Γ X → mA Γ a es = true → fA M a → PA X es (tAv (evA a))
def GI (M : Md) (a : It) : Prop := (∀ (Γ : Ctx) (X : Cx) (tg e : Expr), CxOk M Γ X → mI Γ a e = true → fI M a → PI X tg e (tIv (evI a))) ∧
  (∀ (Γ : Ctx) (X : Cx) (e : Expr) (p pos : Pos), CxOk M Γ X → Gl X "list" → noStar e = true → mI Γ a e = true → isUp a = true → fI M a → PE X (.Call (.Name "list" p) [e] [] pos) (tFv fun ρ => (evI a ρ).bind rngOk))
def GC (M : Md) (a : Cd) : Prop := ∀ (Γ : Ctx) (X : Cx) (es : List Expr), CxOk M Γ X → mC Γ a es = true → fC M a → PTs X es (tTv (evC a))
def GB (M : Md) (a : Bd) : Prop := ∀ (Γ : Ctx) (X : Cx) (e : Option Expr), CxOk M Γ X → mB Γ a e = true → fB M a → PO X e (tOv (evB a))
theorem mA_head {Γ : Ctx} {as : As} {e : Expr} {es : List Expr} {pos : Pos} {env : Env} (h : mA Γ as (e :: es) = true) : noStar e = true ∧ (backTo pos (starEach es env)).any (·.1) = false := by
  cases as with
  | nil => cases h
  | cons a r =>
    obtain ⟨h1, _, h3⟩ := mA_cons h
    exact ⟨h1, stars h3⟩
section
variable {M : Md}
theorem gEx_var (i : Nat)  : GE M (.var i) := by
  refine ⟨fun Γ X e ok h f => ?_, fun Γ X e ok h f => ?_, fun Γ X op vs pos ok h f => ?_⟩
  ·
    exact PE.by (rd_name ok h).1 fun σ H Q => e_var
  ·
    obtain ⟨pn, x, p, ee⟩ := rd_name ok (show rdB Γ i e = true from h)
    subst ee
    exact PT.by (pt_truth (PE.by pn fun σ H Q => e_var) fun _ => rfl) fun σ H Q => t_truth
  · exact absurd (show false = true from h) Bool.false_ne_true
theorem gEx_cint (i : Int)  : GE M (.cint i) := by
  refine ⟨fun Γ X e ok h f => ?_, fun Γ X e ok h f => ?_, fun Γ X op vs pos ok h f => ?_⟩
  ·
    rw [mE] at h
    obtain ⟨k, p, ee⟩ := asConst_eq (of_decide_eq_true h)
    subst ee
    exact PE.by pe_int fun σ H Q => e_const fun H => Rp.int i
  · exact never_t
  · exact absurd (show false = true from h) Bool.false_ne_true
theorem gEx_cbl (i : Bool)  : GE M (.cbl i) := by
  refine ⟨fun Γ X e ok h f => ?_, fun Γ X e ok h f => ?_, fun Γ X op vs pos ok h f => ?_⟩
  ·
    rw [mE] at h
    obtain ⟨k, p, ee⟩ := asConst_eq (of_decide_eq_true h)
    subst ee
    exact PE.by pe_bl fun σ H Q => e_const fun H => Rp.bl i
  · exact never_t
  · exact absurd (show false = true from h) Bool.false_ne_true
theorem gEx_cnon   : GE M (.cnon) := by
  refine ⟨fun Γ X e ok h f => ?_, fun Γ X e ok h f => ?_, fun Γ X op vs pos ok h f => ?_⟩
  ·
    rw [mE] at h
    obtain ⟨k, p, ee⟩ := asConst_eq (of_decide_eq_true h)
    subst ee
    exact PE.by pe_non fun σ H Q => e_const fun H => Rp.non
  · exact never_t
  · exact absurd (show false = true from h) Bool.false_ne_true
theorem gEx_cstr (i : Str)  : GE M (.cstr i) := by
  refine ⟨fun Γ X e ok h f => ?_, fun Γ X e ok h f => ?_, fun Γ X op vs pos ok h f => ?_⟩
  ·
    rw [mE] at h
    obtain ⟨k, p, ee⟩ := asConst_eq (of_decide_eq_true h)
    subst ee
    exact PE.by pe_str fun σ H Q => e_const fun H => Rp.str i
  · exact never_t
  · exact absurd (show false = true from h) Bool.false_ne_true
theorem gEx_glob (x : Str) (d : D)  : GE M (.glob x d) := by
  refine ⟨fun Γ X e ok h f => ?_, fun Γ X e ok h f => ?_, fun Γ X op vs pos ok h f => ?_⟩
  ·
    obtain ⟨p, ee, hg, hd, _⟩ := gn_name ok h
    subst ee
    obtain ⟨u, v, hm, rv, rp⟩ := f
    exact PE.by (pe_glob hg (by rw [ok.mg]; exact hm) rv hd) fun σ H Q => e_const rp
  · exact never_t
  · exact absurd (show false = true from h) Bool.false_ne_true
theorem gEx_bin (op : Bop) (a b : Ex) (ih_a : GE M a) (ih_b : GE M b) : GE M (.bin op a b) := by
  refine ⟨fun Γ X e ok h f => ?_, fun Γ X e ok h f => ?_, fun Γ X op vs pos ok h f => ?_⟩
  ·
    rw [mE] at h
    split at h
    · obtain ⟨_, ee⟩ := asBin_eq (by assumption)
      subst ee
      simp only [Bool.and_eq_true, beq_iff_eq] at h
      obtain ⟨⟨ho, ha⟩, hb⟩ := h
      subst ho
      exact PE.by (pe_op (bop_ok op) (ih_a.1 Γ X _ ok ha f.1) (ih_b.1 Γ X _ ok hb f.2)) fun σ H Q => e_op
    · cases h
  · exact never_t
  · exact absurd (show false = true from h) Bool.false_ne_true
theorem gEx_neg (a : Ex) (ih_a : GE M a) : GE M (.neg a) := by
  refine ⟨fun Γ X e ok h f => ?_, fun Γ X e ok h f => ?_, fun Γ X op vs pos ok h f => ?_⟩
  ·
    rw [mE] at h
    split at h
    · obtain ⟨_, ee⟩ := asUn_eq (by assumption)
      subst ee
      simp only [Bool.and_eq_true, beq_iff_eq] at h
      obtain ⟨ho, ha⟩ := h
      subst ho
      exact PE.by (pe_un neg_ok (ih_a.1 Γ X _ ok ha f)) fun σ H Q => e_un
    · cases h
  · exact never_t
  · exact absurd (show false = true from h) Bool.false_ne_true
theorem gEx_not (a : Ex) (ih_a : GE M a) : GE M (.not a) := by
  refine ⟨fun Γ X e ok h f => ?_, fun Γ X e ok h f => ?_, fun Γ X op vs pos ok h f => ?_⟩
  ·
    rw [mE] at h
    split at h
    · obtain ⟨_, ee⟩ := asUn_eq (by assumption)
      subst ee
      simp only [Bool.and_eq_true, beq_iff_eq] at h
      obtain ⟨ho, ha⟩ := h
      subst ho
      exact PE.by (pe_not (ih_a.1 Γ X _ ok ha f)) fun σ H Q => e_not
    · cases h
  ·
    rw [mE] at h
    split at h
    · obtain ⟨_, ee⟩ := asUn_eq (by assumption)
      subst ee
      simp only [Bool.and_eq_true, beq_iff_eq] at h
      obtain ⟨ho, ha⟩ := h
      subst ho
      refine PT.by (pt_not (ih_a.2.1 Γ X _ ok ha f)) fun σ H Q ⟨B, O0, own, ρ, b, sx, e, q⟩ => ?_
      obtain ⟨k, h1, h2⟩ := map_some' (show (evT a ρ).map (fun b => !b) = some b from e)
      subst h2
      exact ⟨B, O0, own, ρ, k, sx, h1, q⟩
    · cases h
  · exact absurd (show false = true from h) Bool.false_ne_true
theorem gEx_and (a b : Ex) (ih_a : GE M a) (ih_b : GE M b) : GE M (.and a b) := by
  refine ⟨fun Γ X e ok h f => ?_, fun Γ X e ok h f => ?_, fun Γ X op vs pos ok h f => ?_⟩
  ·
    rw [mE] at h
    split at h
    · have ee := asBool_eq (by assumption)
      subst ee
      simp only [Bool.and_eq_true, beq_iff_eq] at h
      obtain ⟨⟨ho, ha⟩, hb⟩ := h
      subst ho
      obtain ⟨r1, r2⟩ := rest_c hb
      exact PE.by (and_pe (ih_a.1 Γ X _ ok ha f.1) (fun z => ih_b.1 Γ X _ ok (r1 z) f.2) (fun z => ih_b.1 Γ X _ ok (r2 z) f.2)) fun σ H Q => e_and
    · cases h
  ·
    rw [mE] at h
    split at h
    · have ee := asBool_eq (by assumption)
      subst ee
      simp only [Bool.and_eq_true, beq_iff_eq] at h
      obtain ⟨⟨ho, ha⟩, hb⟩ := h
      subst ho
      obtain ⟨r1, r2⟩ := rest_c hb
      exact (and_pw (ih_a.2.1 Γ X _ ok ha f.1) (fun z => ih_b.2.1 Γ X _ ok (r1 z) f.2) (fun z => ih_b.2.2 Γ X _ _ _ ok (r2 z) f.2)).pt
    · cases h
  ·
    rw [mE] at h
    split at h
    · have ee := asBool_eq (by assumption)
      cases ee
      simp only [Bool.and_eq_true, beq_iff_eq] at h
      obtain ⟨⟨ho, ha⟩, hb⟩ := h
      subst ho
      obtain ⟨r1, r2⟩ := rest_c hb
      exact and_pw (ih_a.2.1 Γ X _ ok ha f.1) (fun z => ih_b.2.1 Γ X _ ok (r1 z) f.2) (fun z => ih_b.2.2 Γ X _ _ _ ok (r2 z) f.2)
    · cases h
theorem gEx_or (a b : Ex) (ih_a : GE M a) (ih_b : GE M b) : GE M (.or a b) := by
  refine ⟨fun Γ X e ok h f => ?_, fun Γ X e ok h f => ?_, fun Γ X op vs pos ok h f => ?_⟩
  ·
    rw [mE] at h
    split at h
    · have ee := asBool_eq (by assumption)
      subst ee
      simp only [Bool.and_eq_true, beq_iff_eq] at h
      obtain ⟨⟨ho, ha⟩, hb⟩ := h
      subst ho
      obtain ⟨r1, r2⟩ := rest_c hb
      exact PE.by (or_pe (ih_a.1 Γ X _ ok ha f.1) (fun z => ih_b.1 Γ X _ ok (r1 z) f.2) (fun z => ih_b.1 Γ X _ ok (r2 z) f.2)) fun σ H Q => e_or
    · cases h
  ·
    rw [mE] at h
    split at h
    · have ee := asBool_eq (by assumption)
      subst ee
      simp only [Bool.and_eq_true, beq_iff_eq] at h
      obtain ⟨⟨ho, ha⟩, hb⟩ := h
      subst ho
      obtain ⟨r1, r2⟩ := rest_c hb
      exact (or_pw (ih_a.2.1 Γ X _ ok ha f.1) (fun z => ih_b.2.1 Γ X _ ok (r1 z) f.2) (fun z => ih_b.2.2 Γ X _ _ _ ok (r2 z) f.2)).pt
    · cases h
  ·
    rw [mE] at h
    split at h
    · have ee := asBool_eq (by assumption)
      cases ee
      simp only [Bool.and_eq_true, beq_iff_eq] at h
      obtain ⟨⟨ho, ha⟩, hb⟩ := h
      subst ho
      obtain ⟨r1, r2⟩ := rest_c hb
      exact or_pw (ih_a.2.1 Γ X _ ok ha f.1) (fun z => ih_b.2.1 Γ X _ ok (r1 z) f.2) (fun z => ih_b.2.2 Γ X _ _ _ ok (r2 z) f.2)
    · cases h
theorem gEx_cmp (op : Cop) (a b : Ex) (ih_a : GE M a) (ih_b : GE M b) : GE M (.cmp op a b) := by
  refine ⟨fun Γ X e ok h f => ?_, fun Γ X e ok h f => ?_, fun Γ X op vs pos ok h f => ?_⟩
  ·
    rw [mE] at h
    split at h
    · obtain ⟨_, ee⟩ := asCmp1_eq (by assumption)
      subst ee
      simp only [Bool.and_eq_true, beq_iff_eq] at h
      obtain ⟨⟨ho, ha⟩, hb⟩ := h
      subst ho
      have hu := ok.un
      exact PE.by (pe_cmpR (cop_ok op (by omega)) (ih_a.1 Γ X _ ok ha f.1) (ih_b.1 Γ X _ ok hb f.2) (nomarks op _)) fun σ H Q => e_op
    · cases h
  ·
    rw [mE] at h
    split at h
    · obtain ⟨_, ee⟩ := asCmp1_eq (by assumption)
      subst ee
      simp only [Bool.and_eq_true, beq_iff_eq] at h
      obtain ⟨⟨ho, ha⟩, hb⟩ := h
      subst ho
      have hu := ok.un
      exact PT.by (pt_cmpR (cop_ok op (by omega)) (ih_a.1 Γ X _ ok ha f.1) (ih_b.1 Γ X _ ok hb f.2) (nomarks op _)) fun σ H Q => t_op
    · cases h
  · exact absurd (show false = true from h) Bool.false_ne_true
theorem gEx_chain (op op' : Cop) (a b c : Ex) (ih_a : GE M a) (ih_b : GE M b) (ih_c : GE M c) : GE M (.chain op op' a b c) := by
  refine ⟨fun Γ X e ok h f => ?_, fun Γ X e ok h f => ?_, fun Γ X op vs pos ok h f => ?_⟩
  ·
    rw [mE] at h
    split at h
    · obtain ⟨_, ee⟩ := asCmp2_eq (by assumption)
      subst ee
      simp only [Bool.and_eq_true, beq_iff_eq] at h
      obtain ⟨⟨⟨⟨ho, ho'⟩, ha⟩, hb⟩, hc⟩ := h
      subst ho ho'
      have hu := ok.un
      exact PE.by (pe_chain (cop_ok op (by omega)) (cop_ok op' (by omega)) (ih_a.1 Γ X _ ok ha f.1) (ih_b.1 Γ X _ ok hb f.2.1) (ih_c.1 Γ X _ ok hc f.2.2) (nomarks op' _)) fun σ H Q => e_chain
    · cases h
  ·
    rw [mE] at h
    split at h
    · obtain ⟨_, ee⟩ := asCmp2_eq (by assumption)
      subst ee
      simp only [Bool.and_eq_true, beq_iff_eq] at h
      obtain ⟨⟨⟨⟨ho, ho'⟩, ha⟩, hb⟩, hc⟩ := h
      subst ho ho'
      have hu := ok.un
      exact PT.by (pt_chain (cop_ok op (by omega)) (cop_ok op' (by omega)) (ih_a.1 Γ X _ ok ha f.1) (ih_b.1 Γ X _ ok hb f.2.1) (ih_c.1 Γ X _ ok hc f.2.2) (nomarks op' _)) fun σ H Q => t_chain
    · cases h
  · exact absurd (show false = true from h) Bool.false_ne_true
theorem q_isN {a : Ex} {neg : Bool} {σ : L2.St} {H : Hp} {Q : V → Hp → Prop} (q : tEv (fun ρ => (evT (.isN neg a) ρ).map PyData.bool) σ H Q) : tEv (fun ρ => (evE a ρ).map fun d => PyData.bool (xor neg (isNoneD d))) σ H Q := by
  have h : (fun ρ => (evT (.isN neg a) ρ).map PyData.bool) = fun ρ => (evE a ρ).map fun d => PyData.bool (xor neg (isNoneD d)) := funext fun ρ => val_isN
  rw [← h]
  exact q
theorem q_din {k : Ex} {i : Nat} {neg : Bool} {σ : L2.St} {H : Hp} {Q : V → Hp → Prop} (q : tEv (fun ρ => (evT (.din neg i k) ρ).map PyData.bool) σ H Q) : tEv (fun ρ => bind2 ρ[i]? (evE k ρ) fun c kd => (lookO c kd).map fun o => PyData.bool (xor neg o.isSome)) σ H Q := by
  have h : (fun ρ => (evT (.din neg i k) ρ).map PyData.bool) = fun ρ => bind2 ρ[i]? (evE k ρ) fun c kd => (lookO c kd).map fun o => PyData.bool (xor neg o.isSome) := funext fun ρ => val_din
  rw [← h]
  exact q
theorem gEx_isN (neg : Bool) (a : Ex) (ih_a : GE M a) : GE M (.isN neg a) := by
  refine ⟨fun Γ X e ok h f => ?_, fun Γ X e ok h f => ?_, fun Γ X op vs pos ok h f => ?_⟩
  ·
    rw [mE] at h
    split at h
    · obtain ⟨_, ee⟩ := asCmp1_eq (by assumption)
      subst ee
      simp only [Bool.and_eq_true, beq_iff_eq] at h
      obtain ⟨⟨ho, ha⟩, hn⟩ := h
      obtain ⟨_, _, en⟩ := isNoneE_eq hn
      subst ho en
      cases neg with
      | true => exact PE.by (pe_cmp (pc_notN (ih_a.1 Γ X _ ok ha f))) fun σ H Q => e_isN (neg := true)
      | false => exact PE.by (pe_cmp (pc_isN (ih_a.1 Γ X _ ok ha f))) fun σ H Q => e_isN (neg := false)
    · cases h
  ·
    rw [mE] at h
    split at h
    · obtain ⟨_, ee⟩ := asCmp1_eq (by assumption)
      subst ee
      simp only [Bool.and_eq_true, beq_iff_eq] at h
      obtain ⟨⟨ho, ha⟩, hn⟩ := h
      obtain ⟨_, _, en⟩ := isNoneE_eq hn
      subst ho en
      cases neg with
      | true => exact PT.by (pt_cmp (pc_notN (ih_a.1 Γ X _ ok ha f))) fun σ H Q => t_B fun σ H Q q => e_isN (neg := true) (q_isN q)
      | false => exact PT.by (pt_cmp (pc_isN (ih_a.1 Γ X _ ok ha f))) fun σ H Q => t_B fun σ H Q q => e_isN (neg := false) (q_isN q)
    · cases h
  · exact absurd (show false = true from h) Bool.false_ne_true
theorem gEx_isin (neg : Bool) (a b : Ex) (ih_a : GE M a) (ih_b : GE M b) : GE M (.isin neg a b) := by
  refine ⟨fun Γ X e ok h f => ?_, fun Γ X e ok h f => ?_, fun Γ X op vs pos ok h f => ?_⟩
  ·
    rw [mE] at h
    split at h
    · obtain ⟨_, ee⟩ := asCmp1_eq (by assumption)
      subst ee
      simp only [Bool.and_eq_true, beq_iff_eq, Bool.not_eq_true'] at h
      obtain ⟨⟨⟨ho, ha⟩, hb⟩, hm⟩ := h
      subst ho
      have hu := ok.un
      exact PE.by (pe_cmpR (in_ok neg (by omega)) (ih_a.1 Γ X _ ok ha f.1) (ih_b.1 Γ X _ ok hb f.2) hm) fun σ H Q => e_op
    · cases h
  ·
    rw [mE] at h
    split at h
    · obtain ⟨_, ee⟩ := asCmp1_eq (by assumption)
      subst ee
      simp only [Bool.and_eq_true, beq_iff_eq, Bool.not_eq_true'] at h
      obtain ⟨⟨⟨ho, ha⟩, hb⟩, hm⟩ := h
      subst ho
      have hu := ok.un
      exact PT.by (pt_cmpR (in_ok neg (by omega)) (ih_a.1 Γ X _ ok ha f.1) (ih_b.1 Γ X _ ok hb f.2) hm) fun σ H Q => t_op
    · cases h
  · exact absurd (show false = true from h) Bool.false_ne_true
theorem gEx_ix (a b : Ex) (ih_a : GE M a) (ih_b : GE M b) : GE M (.ix a b) := by
  refine ⟨fun Γ X e ok h f => ?_, fun Γ X e ok h f => ?_, fun Γ X op vs pos ok h f => ?_⟩
  ·
    rw [mE] at h
    split at h
    · obtain ⟨_, ee⟩ := asSub_eq (by assumption)
      subst ee
      simp only [Bool.and_eq_true] at h
      obtain ⟨⟨hn, ha⟩, hb⟩ := h
      exact PE.by (pe_ix ix_ok (ih_a.1 Γ X _ ok ha f.1) (ih_b.1 Γ X _ ok hb f.2) (plain_ix hn)) fun σ H Q => e_op
    · cases h
  ·
    rw [mE] at h
    split at h
    · obtain ⟨_, ee⟩ := asSub_eq (by assumption)
      subst ee
      simp only [Bool.and_eq_true] at h
      obtain ⟨⟨hn, ha⟩, hb⟩ := h
      exact PT.by (pt_truth (PE.by (pe_ix ix_ok (ih_a.1 Γ X _ ok ha f.1) (ih_b.1 Γ X _ ok hb f.2) (plain_ix hn)) fun σ H Q => e_op) fun _ => rfl) fun σ H Q => t_truth
    · cases h
  · exact absurd (show false = true from h) Bool.false_ne_true
theorem gEx_oix (i : Nat) (b : Ex) (ih_b : GE M b) : GE M (.oix i b) := by
  refine ⟨fun Γ X e ok h f => ?_, fun Γ X e ok h f => ?_, fun Γ X op vs pos ok h f => ?_⟩
  ·
    rw [mE] at h
    split at h
    · obtain ⟨_, ee⟩ := asSub_eq (by assumption)
      subst ee
      simp only [Bool.and_eq_true] at h
      obtain ⟨⟨hn, ha⟩, hb⟩ := h
      exact PE.by (pe_ix ix_list (rd_name ok ha).1 (ih_b.1 Γ X _ ok hb f) (plain_ix hn)) fun σ H Q => e_oix
    · cases h
  · exact never_t
  · exact absurd (show false = true from h) Bool.false_ne_true
theorem gEx_slice (a : Ex) (lo hi : Bd) (ih_a : GE M a) (ih_lo : GB M lo) (ih_hi : GB M hi) : GE M (.slice a lo hi) := by
  refine ⟨fun Γ X e ok h f => ?_, fun Γ X e ok h f => ?_, fun Γ X op vs pos ok h f => ?_⟩
  ·
    rw [mE] at h
    split at h
    · obtain ⟨_, ee⟩ := asSub_eq (by assumption)
      subst ee
      simp only [Bool.and_eq_true] at h
      obtain ⟨ha, h⟩ := h
      split at h
      · obtain ⟨_, ee⟩ := asSlice_eq (by assumption)
        subst ee
        simp only [Bool.and_eq_true] at h
        exact PE.by (pe_slice (slF_ok.or slT_ok) (ih_a.1 Γ X _ ok ha f.1) (ih_lo Γ X _ ok h.1 f.2.1) (ih_hi Γ X _ ok h.2 f.2.2)) fun σ H Q => e_slice
      · cases h
    · cases h
  · exact never_t
  · exact absurd (show false = true from h) Bool.false_ne_true
theorem gEx_rev (a : Ex) (ih_a : GE M a) : GE M (.rev a) := by
  refine ⟨fun Γ X e ok h f => ?_, fun Γ X e ok h f => ?_, fun Γ X op vs pos ok h f => ?_⟩
  ·
    rw [mE] at h
    split at h
    · obtain ⟨_, ee⟩ := asSub_eq (by assumption)
      subst ee
      simp only [Bool.and_eq_true] at h
      obtain ⟨ha, hr⟩ := h
      obtain ⟨_, _, _, _, er⟩ := isRevS_eq hr
      subst er
      exact PE.by (pe_revL (ih_a.1 Γ X _ ok ha f)) fun σ H Q q => f_rev (f_e q)
    · cases h
  · exact never_t
  · exact absurd (show false = true from h) Bool.false_ne_true
theorem gEx_tup (as : As) (ih_as : GA M as) : GE M (.tup as) := by
  refine ⟨fun Γ X e ok h f => ?_, fun Γ X e ok h f => ?_, fun Γ X op vs pos ok h f => ?_⟩
  ·
    rw [mE] at h
    split at h
    · obtain ⟨_, _, ee⟩ := asTup_eq (by assumption)
      subst ee
      exact PE.by (pe_tup (ih_as Γ X _ ok h f)) fun σ H Q => e_tup
    · cases h
  · exact never_t
  · exact absurd (show false = true from h) Bool.false_ne_true
theorem gEx_lst (as : As) (ih_as : GA M as) : GE M (.lst as) := by
  refine ⟨fun Γ X e ok h f => ?_, fun Γ X e ok h f => ?_, fun Γ X op vs pos ok h f => ?_⟩
  ·
    rw [mE] at h
    split at h
    · obtain ⟨_, ee⟩ := asLst_eq (by assumption)
      subst ee
      exact PE.by (pe_lst (ih_as Γ X _ ok h f)) fun σ H Q q => f_lst (f_e q)
    · cases h
  · exact never_t
  · exact absurd (show false = true from h) Bool.false_ne_true
theorem gEx_rep (as : As) (b : Ex) (ih_as : GA M as) (ih_b : GE M b) : GE M (.rep as b) := by
  refine ⟨fun Γ X e ok h f => ?_, fun Γ X e ok h f => ?_, fun Γ X op vs pos ok h f => ?_⟩
  ·
    rw [mE] at h
    split at h
    · obtain ⟨_, ee⟩ := asBin_eq (by assumption)
      subst ee
      simp only [Bool.and_eq_true, beq_iff_eq] at h
      obtain ⟨⟨ho, hb⟩, h⟩ := h
      subst ho
      split at h
      · obtain ⟨_, ee⟩ := asLst_eq (by assumption)
        subst ee
        exact PE.by (pe_op repR (pe_lst (ih_as Γ X _ ok h f.1)) (ih_b.1 Γ X _ ok hb f.2)) fun σ H Q q => f_rep (f_e q)
      · cases h
    · cases h
  · exact never_t
  · exact absurd (show false = true from h) Bool.false_ne_true
theorem gEx_call (x : Str) (g : List D → Option D) (as : As) (ih_as : GA M as) : GE M (.call x g as) := by
  refine ⟨fun Γ X e ok h f => ?_, fun Γ X e ok h f => ?_, fun Γ X op vs pos ok h f => ?_⟩
  ·
    rw [mE] at h
    split at h
    · obtain ⟨_, ee⟩ := asCall_eq (by assumption)
      subst ee
      simp only [Bool.and_eq_true] at h
      obtain ⟨hn, ha⟩ := h
      obtain ⟨p, ee, hg, hd, _⟩ := gn_name ok hn
      subst ee
      obtain ⟨fa, fd, ps, h1, h2, h3, h4⟩ := FnAt.get ok f.1
      exact PE.by (pe_callG h3 ok.gd ok.room hg h1 h2 h4 (ih_as Γ X _ ok ha f.2) hd (star1 (mA_head (pos := p) (env := X.env) ha).1) (mA_head ha).2) fun σ H Q => e_call
    · cases h
  ·
    rw [mE] at h
    split at h
    · obtain ⟨_, ee⟩ := asCall_eq (by assumption)
      subst ee
      simp only [Bool.and_eq_true] at h
      obtain ⟨hn, ha⟩ := h
      obtain ⟨p, ee, hg, hd, _⟩ := gn_name ok hn
      subst ee
      obtain ⟨fa, fd, ps, h1, h2, h3, h4⟩ := FnAt.get ok f.1
      exact PT.by (pt_truth (PE.by (pe_callG h3 ok.gd ok.room hg h1 h2 h4 (ih_as Γ X _ ok ha f.2) hd (star1 (mA_head (pos := p) (env := X.env) ha).1) (mA_head ha).2) fun σ H Q => e_call) fun _ => rfl) fun σ H Q => t_truth
    · cases h
  · exact absurd (show false = true from h) Bool.false_ne_true
theorem gEx_callF (x : Str) (g : List D → Option (List D)) (as : As) (ih_as : GA M as) : GE M (.callF x g as) := by
  refine ⟨fun Γ X e ok h f => ?_, fun Γ X e ok h f => ?_, fun Γ X op vs pos ok h f => ?_⟩
  ·
    rw [mE] at h
    split at h
    · obtain ⟨_, ee⟩ := asCall_eq (by assumption)
      subst ee
      simp only [Bool.and_eq_true] at h
      obtain ⟨hn, ha⟩ := h
      obtain ⟨p, ee, hg, hd, _⟩ := gn_name ok hn
      subst ee
      obtain ⟨fa, fd, ps, h1, h2, h3, h4⟩ := FnAt.get ok f.1
      exact PE.by (pe_callG h3 ok.gd ok.room hg h1 h2 h4 (ih_as Γ X _ ok ha f.2) hd (star1 (mA_head (pos := p) (env := X.env) ha).1) (mA_head ha).2) fun σ H Q q => f_call (f_e q)
    · cases h
  · exact never_t
  · exact absurd (show false = true from h) Bool.false_ne_true
theorem gEx_bfn (g : Bfn) (as : As) (ih_as : GA M as) : GE M (.bfn g as) := by
  refine ⟨fun Γ X e ok h f => ?_, fun Γ X e ok h f => ?_, fun Γ X op vs pos ok h f => ?_⟩
  ·
    rw [mE] at h
    split at h
    · obtain ⟨_, ee⟩ := asCall_eq (by assumption)
      subst ee
      simp only [Bool.and_eq_true] at h
      obtain ⟨hn, ha⟩ := h
      obtain ⟨p, ee, hg, hd, hnm⟩ := gn_name ok hn
      subst ee
      exact PE.by (pe_callB (bfn_ok g ok.calm) hg (blt_in ok g) (bfn_boot g) (ih_as Γ X _ ok ha f) hnm hd (star1 (mA_head (pos := p) (env := X.env) ha).1) (mA_head ha).2) fun σ H Q => e_callL
    · cases h
  · exact never_t
  · exact absurd (show false = true from h) Bool.false_ne_true
theorem gEx_int (a : Ex) (ih_a : GE M a) : GE M (.int a) := by
  refine ⟨fun Γ X e ok h f => ?_, fun Γ X e ok h f => ?_, fun Γ X op vs pos ok h f => ?_⟩
  ·
    rw [mE] at h
    split at h
    · obtain ⟨_, ee⟩ := asCall1_eq (by assumption)
      subst ee
      simp only [Bool.and_eq_true] at h
      obtain ⟨⟨hn, hs⟩, ha⟩ := h
      obtain ⟨p, ee, hg, hd, hnm⟩ := gn_name ok hn
      subst ee
      exact PE.by (pe_callTy int_ok hg (ok.nb (by decide)) (by decide +kernel) (pa_cons (ih_a.1 Γ X _ ok ha f) pa_nil (star1 hs)) hnm hd (star1 hs) rfl) fun σ H Q => e_call1
    · cases h
  · exact never_t
  · exact absurd (show false = true from h) Bool.false_ne_true
theorem gEx_list (a : Ex) (ih_a : GE M a) : GE M (.list a) := by
  refine ⟨fun Γ X e ok h f => ?_, fun Γ X e ok h f => ?_, fun Γ X op vs pos ok h f => ?_⟩
  ·
    rw [mE] at h
    split at h
    · obtain ⟨_, ee⟩ := asCall1_eq (by assumption)
      subst ee
      simp only [Bool.and_eq_true] at h
      obtain ⟨⟨hn, hs⟩, ha⟩ := h
      obtain ⟨p, ee, hg, hd, hnm⟩ := gn_name ok hn
      subst ee
      exact PE.by (pe_callTy list_ok hg (ok.nb (by decide)) (by decide +kernel) (pa_cons (ih_a.1 Γ X _ ok ha f) pa_nil (star1 hs)) hnm hd (star1 hs) rfl) fun σ H Q q => f_call1 (f_e q)
    · cases h
  · exact never_t
  · exact absurd (show false = true from h) Bool.false_ne_true
theorem gEx_tuple (a : Ex) (ih_a : GE M a) : GE M (.tuple a) := by
  refine ⟨fun Γ X e ok h f => ?_, fun Γ X e ok h f => ?_, fun Γ X op vs pos ok h f => ?_⟩
  ·
    rw [mE] at h
    split at h
    · obtain ⟨_, ee⟩ := asCall1_eq (by assumption)
      subst ee
      simp only [Bool.and_eq_true] at h
      obtain ⟨⟨hn, hs⟩, ha⟩ := h
      obtain ⟨p, ee, hg, hd, hnm⟩ := gn_name ok hn
      subst ee
      exact PE.by (pe_callTy tuple_ok hg (ok.nb (by decide)) (by decide +kernel) (pa_cons (ih_a.1 Γ X _ ok ha f) pa_nil (star1 hs)) hnm hd (star1 hs) rfl) fun σ H Q => e_call1
    · cases h
  · exact never_t
  · exact absurd (show false = true from h) Bool.false_ne_true
theorem gEx_sorted (a : Ex) (ih_a : GE M a) : GE M (.sorted a) := by
  refine ⟨fun Γ X e ok h f => ?_, fun Γ X e ok h f => ?_, fun Γ X op vs pos ok h f => ?_⟩
  ·
    rw [mE] at h
    split at h
    · obtain ⟨_, ee⟩ := asCall1_eq (by assumption)
      subst ee
      simp only [Bool.and_eq_true] at h
      obtain ⟨⟨hn, hs⟩, ha⟩ := h
      obtain ⟨p, ee, hg, hd, hnm⟩ := gn_name ok hn
      subst ee
      have hu := ok.un
      exact PE.by (pe_callB (sort_ok (by omega)) hg (ok.nb (by decide)) (by decide +kernel) (pa_cons (ih_a.1 Γ X _ ok ha f) pa_nil (star1 hs)) hnm hd (star1 hs) rfl) fun σ H Q q => f_call1 (f_e q)
    · cases h
  · exact never_t
  · exact absurd (show false = true from h) Bool.false_ne_true
theorem gEx_lrng (r : It) (ih_r : GI M r) : GE M (.lrng r) := by
  refine ⟨fun Γ X e ok h f => ?_, fun Γ X e ok h f => ?_, fun Γ X op vs pos ok h f => ?_⟩
  ·
    rw [mE] at h
    split at h
    · obtain ⟨_, ee⟩ := asCall1_eq (by assumption)
      subst ee
      simp only [Bool.and_eq_true] at h
      obtain ⟨⟨⟨hn, hs⟩, ha⟩, hr⟩ := h
      obtain ⟨p, ee, hg, hd, hnm⟩ := gn_name ok hn
      subst ee
      exact PE.by (ih_r.2 Γ X _ p _ ok hg hs ha hr f) fun σ H Q => f_e
    · cases h
  · exact never_t
  · exact absurd (show false = true from h) Bool.false_ne_true
theorem gEx_is (t : Ty) (a : Ex) (ih_a : GE M a) : GE M (.is t a) := by
  refine ⟨fun Γ X e ok h f => ?_, fun Γ X e ok h f => ?_, fun Γ X op vs pos ok h f => ?_⟩
  ·
    rw [mE] at h
    split at h
    · obtain ⟨_, ee⟩ := asCall2_eq (by assumption)
      subst ee
      simp only [Bool.and_eq_true] at h
      obtain ⟨⟨⟨hn, hs⟩, ha⟩, h⟩ := h
      split at h
      · obtain ⟨_, ey⟩ := asNm_eq (by assumption)
        subst ey
        simp only [Bool.and_eq_true, beq_iff_eq] at h
        obtain ⟨hy, hgl⟩ := h
        subst hy
        obtain ⟨p, ee, hg, hd, hnm⟩ := gn_name ok hn
        subst ee
        obtain ⟨g1, g2, g3⟩ := ok.gl hgl
        exact PE.by (pe_callB (is_ok t) hg (ok.nb (by decide)) (by decide +kernel) (pa_cons (ih_a.1 Γ X _ ok ha f) (pa_cons (pe_bltn (v := .ty t.py) g1 (ty_in ok t) (ty_boot t) rfl g3 g2) pa_nil) (star1 hs)) hnm hd (star1 hs) rfl) fun σ H Q => e_is
      · cases h
    · cases h
  ·
    rw [mE] at h
    split at h
    · obtain ⟨_, ee⟩ := asCall2_eq (by assumption)
      subst ee
      simp only [Bool.and_eq_true] at h
      obtain ⟨⟨⟨hn, hs⟩, ha⟩, h⟩ := h
      split at h
      · obtain ⟨_, ey⟩ := asNm_eq (by assumption)
        subst ey
        simp only [Bool.and_eq_true, beq_iff_eq] at h
        obtain ⟨hy, hgl⟩ := h
        subst hy
        obtain ⟨p, ee, hg, hd, hnm⟩ := gn_name ok hn
        subst ee
        obtain ⟨g1, g2, g3⟩ := ok.gl hgl
        exact PT.by (pt_val (PE.by (pe_callB (is_ok t) hg (ok.nb (by decide)) (by decide +kernel) (pa_cons (ih_a.1 Γ X _ ok ha f) (pa_cons (pe_bltn (v := .ty t.py) g1 (ty_in ok t) (ty_boot t) rfl g3 g2) pa_nil) (star1 hs)) hnm hd (star1 hs) rfl) fun σ H Q => e_is) fun _ => rfl) fun σ H Q => t_B fun σ H Q q => q
      · cases h
    · cases h
  · exact absurd (show false = true from h) Bool.false_ne_true
theorem gEx_comp (vs : List Nat) (t : Tg) (it : It) (c : Cd) (el : Ex) (ih_it : GI M it) (ih_c : GC M c) (ih_el : GE M el) : GE M (.comp vs t it c el) := by
  refine ⟨fun Γ X e ok h f => ?_, fun Γ X e ok h f => ?_, fun Γ X op vs pos ok h f => ?_⟩
  ·
    rw [mE] at h
    split at h
    · obtain ⟨_, ee⟩ := asComp_eq (by assumption)
      subst ee
      simp only [Bool.and_eq_true] at h
      obtain ⟨⟨⟨⟨⟨⟨hb, hin⟩, hset⟩, hi⟩, ht⟩, hc⟩, he⟩ := h
      exact PE.by (comp_two ok hb hin hset (fun tg => ih_it.1 Γ X tg _ ok hi f.1) (fun X' ok' => pg_tg ok' ht) (fun X' ok' => ih_c _ X' _ ok' hc f.2.1) (fun X' ok' => ih_el.1 _ X' _ ok' he f.2.2)).1 fun σ H Q => f_e
    · cases h
  · exact never_t
  · exact absurd (show false = true from h) Bool.false_ne_true
theorem gEx_compK (vs : List Nat) (t : Tg) (i : Nat) (c : Cd) (el : Ex) (ih_c : GC M c) (ih_el : GE M el) : GE M (.compK vs t i c el) := by
  refine ⟨fun Γ X e ok h f => ?_, fun Γ X e ok h f => ?_, fun Γ X op vs pos ok h f => ?_⟩
  ·
    rw [mE] at h
    split at h
    · obtain ⟨_, ee⟩ := asComp_eq (by assumption)
      subst ee
      simp only [Bool.and_eq_true] at h
      obtain ⟨⟨⟨⟨⟨⟨hb, hin⟩, hset⟩, hi⟩, ht⟩, hc⟩, he⟩ := h
      exact PE.by (compK_two ok hb hin hset (rd_name ok hi).1 (fun X' ok' => pg_tg ok' ht) (fun X' ok' => ih_c _ X' _ ok' hc f.1) (fun X' ok' => ih_el.1 _ X' _ ok' he f.2)).1 fun σ H Q => f_e
    · cases h
  · exact never_t
  · exact absurd (show false = true from h) Bool.false_ne_true
theorem gEx_dget (i : Nat) (k d : Ex) (ih_k : GE M k) (ih_d : GE M d) : GE M (.dget i k d) := by
  refine ⟨fun Γ X e ok h f => ?_, fun Γ X e ok h f => ?_, fun Γ X op vs pos ok h f => ?_⟩
  ·
    rw [mE] at h
    split at h
    · obtain ⟨apos, cpos, ee, hl⟩ := asMe2_eq (by assumption)
      subst ee
      simp only [Bool.and_eq_true, beq_iff_eq] at h
      obtain ⟨⟨⟨⟨⟨hm, ho⟩, hk⟩, hd⟩, hek⟩, hed⟩ := h
      subst hm
      obtain ⟨pn, x, p, ee⟩ := rd_name ok ho
      subst ee
      have hu := ok.un
      refine PE.by (pe_dget2 (by omega) pn (ih_k.1 Γ X _ ok hek f.1) (ih_d.1 Γ X _ ok hed f.2) ⟨rfl, ?_, hl, ?_⟩) fun σ H Q => e_dget
      · rw [star_two hk hd]; rfl
      · rw [star_two hk hd]; rfl
    · cases h
  · exact never_t
  · exact absurd (show false = true from h) Bool.false_ne_true
theorem gEx_dix (i : Nat) (k : Ex) (ih_k : GE M k) : GE M (.dix i k) := by
  refine ⟨fun Γ X e ok h f => ?_, fun Γ X e ok h f => ?_, fun Γ X op vs pos ok h f => ?_⟩
  ·
    rw [mE] at h
    split at h
    · obtain ⟨_, ee⟩ := asSub_eq (by assumption)
      subst ee
      simp only [Bool.and_eq_true] at h
      obtain ⟨⟨hn, ha⟩, hb⟩ := h
      have hu := ok.un
      exact PE.by (pe_dget (by omega) (rd_name ok ha).1 (ih_k.1 Γ X _ ok hb f) (plain_ix hn)) fun σ H Q => e_dix
    · cases h
  · exact never_t
  · exact absurd (show false = true from h) Bool.false_ne_true
theorem gEx_fix (a k : Ex) (ih_a : GE M a) (ih_k : GE M k) : GE M (.fix a k) := by
  refine ⟨fun Γ X e ok h f => ?_, fun Γ X e ok h f => ?_, fun Γ X op vs pos ok h f => ?_⟩
  ·
    rw [mE] at h
    split at h
    · obtain ⟨_, ee⟩ := asSub_eq (by assumption)
      subst ee
      simp only [Bool.and_eq_true] at h
      obtain ⟨⟨hn, ha⟩, hb⟩ := h
      have hu := ok.un
      exact PE.by (pe_dget (by omega) (ih_a.1 Γ X _ ok ha f.1) (ih_k.1 Γ X _ ok hb f.2) (plain_ix hn)) fun σ H Q => e_fix
    · cases h
  · exact never_t
  · exact absurd (show false = true from h) Bool.false_ne_true
theorem gEx_din (neg : Bool) (i : Nat) (k : Ex) (ih_k : GE M k) : GE M (.din neg i k) := by
  refine ⟨fun Γ X e ok h f => ?_, fun Γ X e ok h f => ?_, fun Γ X op vs pos ok h f => ?_⟩
  ·
    rw [mE] at h
    split at h
    · obtain ⟨_, ee⟩ := asCmp1_eq (by assumption)
      subst ee
      simp only [Bool.and_eq_true, beq_iff_eq, Bool.not_eq_true'] at h
      obtain ⟨⟨⟨ho, ha⟩, hb⟩, hm⟩ := h
      subst ho
      have hu := ok.un
      cases neg with
      | true => exact PE.by (pe_cmp (pc_dnotin (by omega) (ih_k.1 Γ X _ ok ha f) (rd_name ok hb).1) hm) fun σ H Q => e_din (neg := true)
      | false => exact PE.by (pe_cmp (pc_din (by omega) (ih_k.1 Γ X _ ok ha f) (rd_name ok hb).1) hm) fun σ H Q => e_din (neg := false)
    · cases h
  ·
    rw [mE] at h
    split at h
    · obtain ⟨_, ee⟩ := asCmp1_eq (by assumption)
      subst ee
      simp only [Bool.and_eq_true, beq_iff_eq, Bool.not_eq_true'] at h
      obtain ⟨⟨⟨ho, ha⟩, hb⟩, hm⟩ := h
      subst ho
      have hu := ok.un
      cases neg with
      | true => exact PT.by (pt_cmp (pc_dnotin (by omega) (ih_k.1 Γ X _ ok ha f) (rd_name ok hb).1) hm) fun σ H Q => t_B fun σ H Q q => e_din (neg := true) (q_din q)
      | false => exact PT.by (pt_cmp (pc_din (by omega) (ih_k.1 Γ X _ ok ha f) (rd_name ok hb).1) hm) fun σ H Q => t_B fun σ H Q q => e_din (neg := false) (q_din q)
    · cases h
  · exact absurd (show false = true from h) Bool.false_ne_true
theorem gEx_repr (a : Ex) (ih_a : GE M a) : GE M (.repr a) := by
  refine ⟨fun Γ X e ok h f => ?_, fun Γ X e ok h f => ?_, fun Γ X op vs pos ok h f => ?_⟩
  ·
    rw [mE] at h
    split at h
    · obtain ⟨_, ee⟩ := asCall1_eq (by assumption)
      subst ee
      simp only [Bool.and_eq_true] at h
      obtain ⟨⟨hn, hs⟩, ha⟩ := h
      obtain ⟨p, ee, hg, hd, hnm⟩ := gn_name ok hn
      subst ee
      have hu := ok.un
      exact PE.by (pe_callB (repr_ok ok.gd (by omega)) hg (ok.nb (by decide)) (by decide +kernel) (pa_cons (ih_a.1 Γ X _ ok ha f) pa_nil (star1 hs)) hnm hd (star1 hs) rfl) fun σ H Q => e_call1
    · cases h
  · exact never_t
  · exact absurd (show false = true from h) Bool.false_ne_true
theorem ints_vs {H : Hp} : ∀ (ns : List Int) {vs : List V}, RpA H vs (ns.map PyData.int) → vs = ns.map V.int
  | [], _, .nil => rfl
  | n :: ns, _, .cons r t => by
    cases r
    rw [ints_vs ns t]
    rfl
/-- sorted(set(e)): as it is read -/
theorem f_sset {σ : L2.St} {H : Hp} {Q : VK} {w : World} {ea : EnvD → Option D} : tFv (fun ρ => (ea ρ).bind fun d => ssetF [d]) σ H Q → tCB (rSortedSet w) (tCons (tCB (rSetZ w) (tCons (tEv ea) tNil)) tNil) σ H Q := fun ⟨B, O0, own, ρ, es, sx, ev, q⟩ => by
  obtain ⟨d, h1, h2⟩ := bind1 ev
  unfold ssetF at h2
  split at h2
  · rename_i xs hx
    have ed : d = .list xs := by
      injection hx
    subst ed
    obtain ⟨ns, h3, h4⟩ := bind1 h2
    obtain ⟨hl, z⟩ := ite_some h4
    subst z
    have ex := intsOf_eq h3
    subst ex
    refine ⟨B, O0, own, ρ, _, sx, h1, fun v H1 s1 r1 => ?_⟩
    cases r1 with
    | lst g1 g2 =>
      rename_i a vs
      have ev : vs = ns.map V.int := ints_vs ns g2
      subst ev
      refine ⟨a, ns, rfl, rd_of g1, hl, fun p c np hc => ?_⟩
      have s2 : Same H (upd H1 p (SetO w p (fun j => decide (j ∈ ns)) c)) := s1.trans (same_new np)
      refine ⟨p, _, c, rfl, upd_same, by omega, fun ms p2 up mem len np2 => ?_⟩
      have em : ms = setSort ns := up_ext up (setSort_up ns) fun k => by
        rw [mem, setSort_mem]
        simp
      subst em
      exact q p2 _ _ (fresh_up s2 np2) (s2.trans (same_new np2)) upd_same (pairs_int _)
  · cases h2
where pairs_int {H : Hp} : ∀ ns : List Int, RpA H (ns.map V.int) (ns.map PyData.int)
  | [] => .nil
  | n :: ns => .cons (.int n) (pairs_int ns)
theorem ps_sset {M : Md} {Γ : Ctx} {X : Cx} (ok : CxOk M Γ X) {e : Expr} {p p2 pos q : Pos} {t : TE} (hg : Gl X "sorted") (hd : (("sorted" : Str) == ("__debug__" : Str)) = false) (hnm : ("sorted" : Str) ≠ ("__name__" : Str))
    (hg2 : Gl X "set") (hd2 : (("set" : Str) == ("__debug__" : Str)) = false) (hnm2 : ("set" : Str) ≠ ("__name__" : Str)) (hs : noStar e = true) (h : PE X e t) :
    PE X (.Call (.Name "sorted" p) [.Call (.Name "set" p2) [e] [] q] [] pos) (tCB (rSortedSet X.w) (tCons (tCB (rSetZ X.w) (tCons t tNil)) tNil)) :=
  pe_callB (cr_sortedSet ok.calm) hg (ok.nb (by decide)) (by decide +kernel) (pa_cons (pe_callTy (cr_setL ok.calm) hg2 (ok.nb (by decide)) (by decide +kernel) (pa_cons h pa_nil (star1 hs)) hnm2 hd2 (star1 hs) rfl) pa_nil rfl) hnm hd rfl rfl
theorem gEx_sset (a : Ex) (ih_a : GE M a) : GE M (.sset a) := by
  refine ⟨fun Γ X e ok h f => ?_, fun Γ X e ok h f => ?_, fun Γ X op vs pos ok h f => ?_⟩
  ·
    rw [mE] at h
    split at h
    · obtain ⟨_, ee⟩ := asCall1_eq (by assumption)
      subst ee
      simp only [Bool.and_eq_true] at h
      obtain ⟨hn, h⟩ := h
      split at h
      · obtain ⟨_, ee⟩ := asCall1_eq (by assumption)
        subst ee
        simp only [Bool.and_eq_true] at h
        obtain ⟨⟨hn2, hs⟩, ha⟩ := h
        obtain ⟨p, ee, hg, hd, hnm⟩ := gn_name ok hn
        obtain ⟨p2, ee2, hg2, hd2, hnm2⟩ := gn_name ok hn2
        subst ee ee2
        exact PE.by (ps_sset ok hg hd hnm hg2 hd2 hnm2 hs (ih_a.1 Γ X _ ok ha f)) fun σ H Q q => f_sset (f_e q)
      · cases h
    · cases h
  · exact never_t
  · exact absurd (show false = true from h) Bool.false_ne_true
theorem e_isb {σ : L2.St} {H : Hp} {Q : VK} {neg b : Bool} {ea : EnvD → Option D} : tEv (fun ρ => ((ea ρ).bind (isbB neg b)).map .bool) σ H Q → tOp (if neg then rNotB else rIsB) (tEv ea) (tC (.bl b)) σ H Q := fun ⟨B, O0, own, ρ, d, sx, ev, q⟩ => by
  obtain ⟨z, h0, e0⟩ := map_some' ev
  subst e0
  obtain ⟨x, h1, h2⟩ := bind1 h0
  unfold isbB at h2
  split at h2
  · rename_i c
    have z := Option.some.inj h2
    subst z
    refine ⟨B, O0, own, ρ, _, sx, h1, fun v H1 s1 r1 => ?_⟩
    cases r1
    cases neg with
    | true =>
      refine ⟨c, b, rfl, rfl, q _ _ s1 ?_⟩
      have e : (true ^^ (c == b)) = !decide (c = b) := by cases c <;> cases b <;> rfl
      rw [e]
      exact .bl _
    | false =>
      refine ⟨c, b, rfl, rfl, q _ _ s1 ?_⟩
      have e : (false ^^ (c == b)) = decide (c = b) := by cases c <;> cases b <;> rfl
      rw [e]
      exact .bl _
  · cases h2
theorem pe_isb {X : Cx} {neg b : Bool} {e : Expr} {k : Nat} {p pos : Pos} {t : TE} (h : PE X e t) : PE X (.Compare e [if neg then .IsNot else .Is] [.Constant (.bool b) k p] pos) (tOp (if neg then rNotB else rIsB) t (tC (.bl b))) := by
  cases neg with
  | true => exact pe_cmpR op_notBl h pe_bl (nobehind _ (by decide) (by decide))
  | false => exact pe_cmpR op_isBl h pe_bl (nobehind _ (by decide) (by decide))
theorem pt_isb {X : Cx} {neg b : Bool} {e : Expr} {k : Nat} {p pos : Pos} {t : TE} (h : PE X e t) : PT X (.Compare e [if neg then .IsNot else .Is] [.Constant (.bool b) k p] pos) (tTest (tOp (if neg then rNotB else rIsB) t (tC (.bl b)))) := by
  cases neg with
  | true => exact pt_cmpR op_notBl h pe_bl (nobehind _ (by decide) (by decide))
  | false => exact pt_cmpR op_isBl h pe_bl (nobehind _ (by decide) (by decide))
theorem gEx_isb (neg b : Bool) (a : Ex) (ih_a : GE M a) : GE M (.isb neg b a) := by
  refine ⟨fun Γ X e ok h f => ?_, fun Γ X e ok h f => ?_, fun Γ X op vs pos ok h f => ?_⟩
  ·
    rw [mE] at h
    split at h
    · obtain ⟨_, ee⟩ := asCmp1_eq (by assumption)
      subst ee
      simp only [Bool.and_eq_true, beq_iff_eq] at h
      obtain ⟨⟨ho, ha⟩, hb⟩ := h
      obtain ⟨k, p, ee⟩ := asConst_eq (of_decide_eq_true hb)
      subst ee ho
      exact PE.by (pe_isb (ih_a.1 Γ X _ ok ha f)) fun σ H Q => e_isb
    · cases h
  ·
    rw [mE] at h
    split at h
    · obtain ⟨_, ee⟩ := asCmp1_eq (by assumption)
      subst ee
      simp only [Bool.and_eq_true, beq_iff_eq] at h
      obtain ⟨⟨ho, ha⟩, hb⟩ := h
      obtain ⟨k, p, ee⟩ := asConst_eq (of_decide_eq_true hb)
      subst ee ho
      exact PT.by (pt_isb (ih_a.1 Γ X _ ok ha f)) fun σ H Q => t_B fun σ H Q => e_isb
    · cases h
  · exact absurd (show false = true from h) Bool.false_ne_true
theorem gAs_nil   : GA M (.nil) := by
  intro Γ X es ok h f
  cases es with
  | nil => exact PA.by pa_nil fun σ H Q => a_nil
  | cons _ _ => cases h
theorem gAs_cons (a : Ex) (r : As) (ih_a : GE M a) (ih_r : GA M r) : GA M (.cons a r) := by
  intro Γ X es ok h f
  cases es with
  | nil => cases h
  | cons e es =>
    obtain ⟨hs, ha, hr⟩ := mA_cons h
    exact PA.by (pa_cons (ih_a.1 Γ X _ ok ha f.1) (ih_r Γ X _ ok hr f.2) (star1 hs)) fun σ H Q => a_cons
theorem gIt_seq (a : Ex) (ih_a : GE M a) : GI M (.seq a) := by
  refine ⟨fun Γ X tg e ok h f => ?_, fun Γ X e p pos ok hgl hst h z f => ?_⟩
  · exact i_seq (ih_a.1 Γ X _ ok h f)
  ·
    cases z
theorem gIt_r1 (a : Ex) (ih_a : GE M a) : GI M (.r1 a) := by
  refine ⟨fun Γ X tg e ok h f => ?_, fun Γ X e p pos ok hgl hst h z f => ?_⟩
  ·
    rw [mI] at h
    split at h
    · obtain ⟨_, ee⟩ := asCall1_eq (by assumption)
      subst ee
      simp only [Bool.and_eq_true] at h
      obtain ⟨⟨hn, hs⟩, ha⟩ := h
      obtain ⟨p, ee, hg, hd, hnm⟩ := gn_name ok hn
      subst ee
      exact i_r1 hg (ok.nb (by decide)) hs (ih_a.1 Γ X _ ok ha f)
    · cases h
  ·
    rw [mI] at h
    split at h
    · obtain ⟨_, ee⟩ := asCall1_eq (by assumption)
      subst ee
      simp only [Bool.and_eq_true] at h
      obtain ⟨⟨hn, hs⟩, ha⟩ := h
      obtain ⟨p, ee, hg, hd, hnm⟩ := gn_name ok hn
      subst ee
      refine lrng_F ok.calm hgl (ok.nb (by decide)) hst (prg_1 hg (ok.nb (by decide)) (ih_a.1 Γ X _ ok ha f) (star1 hs)) fun σ H Q ⟨B, O0, own, ρ, ds, sx, e1, q⟩ => ?_
      obtain ⟨d, h1, h2⟩ := bind1 (show (evE a (viewE ρ)).bind r1F = some ds from e1)
      unfold r1F at h2
      split at h2
      · obtain ⟨h3, z⟩ := ite_some h2
        subst z
        refine ⟨B, O0, _, viewE ρ, _, sx.view, h1, fun v H1 s1 r1 => ?_⟩
        cases r1
        exact ⟨_, rfl, q 0 _ H1 s1 (by rw [Int.sub_zero]) ⟨by decide, by decide, h3.1, h3.2⟩⟩
      · cases h2
    · cases h
theorem gIt_r2 (a b : Ex) (ih_a : GE M a) (ih_b : GE M b) : GI M (.r2 a b) := by
  refine ⟨fun Γ X tg e ok h f => ?_, fun Γ X e p pos ok hgl hst h z f => ?_⟩
  ·
    rw [mI] at h
    split at h
    · obtain ⟨_, ee⟩ := asCall2_eq (by assumption)
      subst ee
      simp only [Bool.and_eq_true] at h
      obtain ⟨⟨⟨⟨hn, hs⟩, hs'⟩, ha⟩, hb⟩ := h
      obtain ⟨p, ee, hg, hd, hnm⟩ := gn_name ok hn
      subst ee
      exact i_r2 hg (ok.nb (by decide)) hs hs' (ih_a.1 Γ X _ ok ha f.1) (ih_b.1 Γ X _ ok hb f.2)
    · cases h
  ·
    rw [mI] at h
    split at h
    · obtain ⟨_, ee⟩ := asCall2_eq (by assumption)
      subst ee
      simp only [Bool.and_eq_true] at h
      obtain ⟨⟨⟨⟨hn, hs⟩, hs'⟩, ha⟩, hb⟩ := h
      obtain ⟨p, ee, hg, hd, hnm⟩ := gn_name ok hn
      subst ee
      refine lrng_F ok.calm hgl (ok.nb (by decide)) hst (prg_2 hg (ok.nb (by decide)) (ih_a.1 Γ X _ ok ha f.1) (ih_b.1 Γ X _ ok hb f.2) (star1 hs) (star1 hs') (by rw [star1 hs']; rfl)) fun σ H Q ⟨B, O0, own, ρ, ds, sx, e1, q⟩ => ?_
      obtain ⟨d, d', h1, h1', h2⟩ := bind2' (show bind2 (evE a (viewE ρ)) (evE b (viewE ρ)) r2F = some ds from e1)
      unfold r2F at h2
      split at h2
      · obtain ⟨h3, z⟩ := ite_some h2
        subst z
        refine ⟨B, O0, _, viewE ρ, _, sx.view, h1, fun v H1 s1 r1 => ⟨B, O0, _, viewE ρ, _, (sx.up s1).view, h1', fun v' H2 s2 r2 => ?_⟩⟩
        cases r1
        cases r2
        exact ⟨_, _, rfl, rfl, q _ _ H2 (s1.trans s2) rfl ⟨h3.1.1, h3.1.2, h3.2.1, h3.2.2⟩⟩
      · cases h2
    · cases h
theorem gIt_rdn (a : Ex) (ih_a : GE M a) : GI M (.rdn a) := by
  refine ⟨fun Γ X tg e ok h f => ?_, fun Γ X e p pos ok hgl hst h z f => ?_⟩
  ·
    rw [mI] at h
    split at h
    · obtain ⟨_, ee⟩ := asCall3_eq (by assumption)
      subst ee
      simp only [Bool.and_eq_true] at h
      obtain ⟨⟨⟨⟨hn, hs⟩, ha⟩, hj⟩, hk⟩ := h
      obtain ⟨_, _, _, ej⟩ := isM1_eq hj
      obtain ⟨_, _, _, ek⟩ := isM1_eq hk
      subst ej ek
      obtain ⟨p, ee, hg, hd, hnm⟩ := gn_name ok hn
      subst ee
      exact i_rdn hg (ok.nb (by decide)) hs (ih_a.1 Γ X _ ok ha f)
    · cases h
  ·
    cases z
theorem gCd_yes   : GC M (.yes) := by
  intro Γ X es ok h f
  cases es with
  | nil =>
    refine ⟨fun pins s σ H Q I ⟨B, O0, own, ρ, b, sx, e, q⟩ => pts_nil.run pins s σ H Q I ?_⟩
    have z := Option.some.inj e
    subst z
    exact q H (Same.refl _)
  | cons _ _ => cases h
theorem gCd_if_ (c : Ex) (ih_c : GE M c) : GC M (.if_ c) := by
  intro Γ X es ok h f
  cases es with
  | nil => cases h
  | cons e es =>
    have h' : (es.isEmpty && mE Γ c e) = true := h
    simp only [Bool.and_eq_true] at h'
    cases es with
    | nil => exact pts_one (PT.by (ih_c.2.1 Γ X _ ok h'.2 f) fun σ H Q => t_view)
    | cons _ _ => cases h'.1
theorem gBd_no   : GB M (.no) := by
  intro Γ X e ok h f
  cases e with
  | none => exact ⟨fun pins s σ H Q I q => po_none.run pins s σ H Q I (o_no q)⟩
  | some _ => cases h
theorem gBd_at_ (a : Ex) (ih_a : GE M a) : GB M (.at_ a) := by
  intro Γ X e ok h f
  cases e with
  | none => cases h
  | some e => exact ⟨fun pins s σ H Q I q => (po_some (ih_a.1 Γ X _ ok h f)).run pins s σ H Q I (o_at q)⟩
theorem allE : ∀ a : Ex, GE M a := @Ex.rec (GE M) (GA M) (GI M) (GC M) (GB M)
  gEx_var gEx_cint gEx_cbl gEx_cnon gEx_cstr gEx_glob gEx_bin gEx_neg gEx_not gEx_and gEx_or gEx_cmp gEx_chain gEx_isN gEx_isin gEx_ix gEx_oix gEx_slice gEx_rev gEx_tup gEx_lst gEx_rep gEx_call gEx_callF gEx_bfn gEx_int gEx_list gEx_tuple gEx_sorted gEx_lrng gEx_is gEx_comp gEx_compK gEx_dget gEx_dix gEx_fix gEx_din gEx_repr gEx_sset gEx_isb gAs_nil gAs_cons gIt_seq gIt_r1 gIt_r2 gIt_rdn gCd_yes gCd_if_ gBd_no gBd_at_
theorem allA : ∀ a : As, GA M a := @As.rec (GE M) (GA M) (GI M) (GC M) (GB M)
  gEx_var gEx_cint gEx_cbl gEx_cnon gEx_cstr gEx_glob gEx_bin gEx_neg gEx_not gEx_and gEx_or gEx_cmp gEx_chain gEx_isN gEx_isin gEx_ix gEx_oix gEx_slice gEx_rev gEx_tup gEx_lst gEx_rep gEx_call gEx_callF gEx_bfn gEx_int gEx_list gEx_tuple gEx_sorted gEx_lrng gEx_is gEx_comp gEx_compK gEx_dget gEx_dix gEx_fix gEx_din gEx_repr gEx_sset gEx_isb gAs_nil gAs_cons gIt_seq gIt_r1 gIt_r2 gIt_rdn gCd_yes gCd_if_ gBd_no gBd_at_
theorem allI : ∀ a : It, GI M a := @It.rec (GE M) (GA M) (GI M) (GC M) (GB M)
  gEx_var gEx_cint gEx_cbl gEx_cnon gEx_cstr gEx_glob gEx_bin gEx_neg gEx_not gEx_and gEx_or gEx_cmp gEx_chain gEx_isN gEx_isin gEx_ix gEx_oix gEx_slice gEx_rev gEx_tup gEx_lst gEx_rep gEx_call gEx_callF gEx_bfn gEx_int gEx_list gEx_tuple gEx_sorted gEx_lrng gEx_is gEx_comp gEx_compK gEx_dget gEx_dix gEx_fix gEx_din gEx_repr gEx_sset gEx_isb gAs_nil gAs_cons gIt_seq gIt_r1 gIt_r2 gIt_rdn gCd_yes gCd_if_ gBd_no gBd_at_
theorem allC : ∀ a : Cd, GC M a := @Cd.rec (GE M) (GA M) (GI M) (GC M) (GB M)
  gEx_var gEx_cint gEx_cbl gEx_cnon gEx_cstr gEx_glob gEx_bin gEx_neg gEx_not gEx_and gEx_or gEx_cmp gEx_chain gEx_isN gEx_isin gEx_ix gEx_oix gEx_slice gEx_rev gEx_tup gEx_lst gEx_rep gEx_call gEx_callF gEx_bfn gEx_int gEx_list gEx_tuple gEx_sorted gEx_lrng gEx_is gEx_comp gEx_compK gEx_dget gEx_dix gEx_fix gEx_din gEx_repr gEx_sset gEx_isb gAs_nil gAs_cons gIt_seq gIt_r1 gIt_r2 gIt_rdn gCd_yes gCd_if_ gBd_no gBd_at_
theorem allB : ∀ a : Bd, GB M a := @Bd.rec (GE M) (GA M) (GI M) (GC M) (GB M)
  gEx_var gEx_cint gEx_cbl gEx_cnon gEx_cstr gEx_glob gEx_bin gEx_neg gEx_not gEx_and gEx_or gEx_cmp gEx_chain gEx_isN gEx_isin gEx_ix gEx_oix gEx_slice gEx_rev gEx_tup gEx_lst gEx_rep gEx_call gEx_callF gEx_bfn gEx_int gEx_list gEx_tuple gEx_sorted gEx_lrng gEx_is gEx_comp gEx_compK gEx_dget gEx_dix gEx_fix gEx_din gEx_repr gEx_sset gEx_isb gAs_nil gAs_cons gIt_seq gIt_r1 gIt_r2 gIt_rdn gCd_yes gCd_if_ gBd_no gBd_at_
end
end Fv

set_option Elab.async false
set_option linter.all false
set_option maxRecDepth 100000
set_option autoImplicit false
set_option maxHeartbeats 1600000
/-! FvF: new lists as they are made; statements. -/
namespace Fv
open PySem L2
section
variable {M : Md} {Γ : Ctx} {X : Cx}
theorem bop_okF (op : Bop) : OpR X (binaryOp op.py) (rDF (bopF op)) := by
  have hI := ints_ok (X := X) op
  cases op with
  | add => exact catD
  | _ => exact opBy hI fun x y H Q ⟨O, dx, dy, d, ok, rx, ry, e, q⟩ => by cases dx <;> cases dy <;> cases e
theorem f_lrng {ei : EnvD → Option (List D)} {σ : L2.St} {H : Hp} {Q : VK} (h : tFv ei σ H Q) : tFv ei σ H Q := h
theorem never_f {e : Expr} : PE X e (tFv fun _ => none) := ⟨fun _ _ _ _ _ _ ⟨_, _, _, _, _, _, e, _⟩ => nomatch e⟩
/-- the fresh reading of an expression -/
theorem allF (a : Ex) (e : Expr) (ok : CxOk M Γ X) (h : mE Γ a e = true) (f : fE M a) : PE X e (tFv (evF a)) := by
  cases a with
  | bin op a b =>
    rw [mE] at h
    split at h
    · obtain ⟨_, ee⟩ := asBin_eq (by assumption)
      subst ee
      simp only [Bool.and_eq_true, beq_iff_eq] at h
      obtain ⟨⟨ho, ha⟩, hb⟩ := h
      subst ho
      exact PE.by (pe_op (bop_okF op) ((allE a).1 Γ X _ ok ha f.1) ((allE b).1 Γ X _ ok hb f.2)) fun σ H Q => f_op
    · cases h
  | slice a lo hi =>
    rw [mE] at h
    split at h
    · obtain ⟨_, ee⟩ := asSub_eq (by assumption)
      subst ee
      simp only [Bool.and_eq_true] at h
      obtain ⟨ha, h⟩ := h
      split at h
      · obtain ⟨_, ee⟩ := asSlice_eq (by assumption)
        subst ee
        simp only [Bool.and_eq_true] at h
        exact PE.by (pe_slice slF_ok ((allE a).1 Γ X _ ok ha f.1) (allB lo Γ X _ ok h.1 f.2.1) (allB hi Γ X _ ok h.2 f.2.2)) fun σ H Q => f_slice
      · cases h
    · cases h
  | rev a =>
    rw [mE] at h
    split at h
    · obtain ⟨_, ee⟩ := asSub_eq (by assumption)
      subst ee
      simp only [Bool.and_eq_true] at h
      obtain ⟨ha, hr⟩ := h
      obtain ⟨_, _, _, _, er⟩ := isRevS_eq hr
      subst er
      exact PE.by (pe_revL ((allE a).1 Γ X _ ok ha f)) fun σ H Q => f_rev
    · cases h
  | lst as =>
    rw [mE] at h
    split at h
    · obtain ⟨_, ee⟩ := asLst_eq (by assumption)
      subst ee
      exact PE.by (pe_lst (allA as Γ X _ ok h f)) fun σ H Q => f_lst
    · cases h
  | rep as b =>
    rw [mE] at h
    split at h
    · obtain ⟨_, ee⟩ := asBin_eq (by assumption)
      subst ee
      simp only [Bool.and_eq_true, beq_iff_eq] at h
      obtain ⟨⟨ho, hb⟩, h⟩ := h
      subst ho
      split at h
      · obtain ⟨_, ee⟩ := asLst_eq (by assumption)
        subst ee
        exact PE.by (pe_op repR (pe_lst (allA as Γ X _ ok h f.1)) ((allE b).1 Γ X _ ok hb f.2)) fun σ H Q => f_rep
      · cases h
    · cases h
  | callF x g as =>
    rw [mE] at h
    split at h
    · obtain ⟨_, ee⟩ := asCall_eq (by assumption)
      subst ee
      simp only [Bool.and_eq_true] at h
      obtain ⟨hn, ha⟩ := h
      obtain ⟨p, ee, hg, hd, _⟩ := gn_name ok hn
      subst ee
      obtain ⟨fa, fd, ps, h1, h2, h3, h4⟩ := FnAt.get ok f.1
      exact PE.by (pe_callG h3 ok.gd ok.room hg h1 h2 h4 (allA as Γ X _ ok ha f.2) hd (star1 (mA_head (pos := p) (env := X.env) ha).1) (mA_head ha).2) fun σ H Q => f_call
    · cases h
  | list a =>
    rw [mE] at h
    split at h
    · obtain ⟨_, ee⟩ := asCall1_eq (by assumption)
      subst ee
      simp only [Bool.and_eq_true] at h
      obtain ⟨⟨hn, hs⟩, ha⟩ := h
      obtain ⟨p, ee, hg, hd, hnm⟩ := gn_name ok hn
      subst ee
      exact PE.by (pe_callTy list_ok hg (ok.nb (by decide)) (by decide +kernel) (pa_cons ((allE a).1 Γ X _ ok ha f) pa_nil (star1 hs)) hnm hd (star1 hs) rfl) fun σ H Q => f_call1
    · cases h
  | sorted a =>
    rw [mE] at h
    split at h
    · obtain ⟨_, ee⟩ := asCall1_eq (by assumption)
      subst ee
      simp only [Bool.and_eq_true] at h
      obtain ⟨⟨hn, hs⟩, ha⟩ := h
      obtain ⟨p, ee, hg, hd, hnm⟩ := gn_name ok hn
      subst ee
      have hu := ok.un
      exact PE.by (pe_callB (sort_ok (by omega)) hg (ok.nb (by decide)) (by decide +kernel) (pa_cons ((allE a).1 Γ X _ ok ha f) pa_nil (star1 hs)) hnm hd (star1 hs) rfl) fun σ H Q => f_call1
    · cases h
  | sset a =>
    rw [mE] at h
    split at h
    · obtain ⟨_, ee⟩ := asCall1_eq (by assumption)
      subst ee
      simp only [Bool.and_eq_true] at h
      obtain ⟨hn, h⟩ := h
      split at h
      · obtain ⟨_, ee⟩ := asCall1_eq (by assumption)
        subst ee
        simp only [Bool.and_eq_true] at h
        obtain ⟨⟨hn2, hs⟩, ha⟩ := h
        obtain ⟨p, ee, hg, hd, hnm⟩ := gn_name ok hn
        obtain ⟨p2, ee2, hg2, hd2, hnm2⟩ := gn_name ok hn2
        subst ee ee2
        exact PE.by (ps_sset ok hg hd hnm hg2 hd2 hnm2 hs ((allE a).1 Γ X _ ok ha f)) fun σ H Q => f_sset
      · cases h
    · cases h
  | lrng r =>
    rw [mE] at h
    split at h
    · obtain ⟨_, ee⟩ := asCall1_eq (by assumption)
      subst ee
      simp only [Bool.and_eq_true] at h
      obtain ⟨⟨⟨hn, hs⟩, ha⟩, hr⟩ := h
      obtain ⟨p, ee, hg, hd, hnm⟩ := gn_name ok hn
      subst ee
      exact (allI r).2 Γ X _ p _ ok hg hs ha hr f
    · cases h
  | comp vs t it c el =>
    rw [mE] at h
    split at h
    · obtain ⟨_, ee⟩ := asComp_eq (by assumption)
      subst ee
      simp only [Bool.and_eq_true] at h
      obtain ⟨⟨⟨⟨⟨⟨hb, hin⟩, hset⟩, hi⟩, ht⟩, hc⟩, he⟩ := h
      exact (comp_two ok hb hin hset (fun tg => (allI it).1 Γ X tg _ ok hi f.1) (fun X' ok' => pg_tg ok' ht) (fun X' ok' => allC c _ X' _ ok' hc f.2.1) (fun X' ok' => (allE el).1 _ X' _ ok' he f.2.2)).1
    · cases h
  | compK vs t i c el =>
    rw [mE] at h
    split at h
    · obtain ⟨_, ee⟩ := asComp_eq (by assumption)
      subst ee
      simp only [Bool.and_eq_true] at h
      obtain ⟨⟨⟨⟨⟨⟨hb, hin⟩, hset⟩, hi⟩, ht⟩, hc⟩, he⟩ := h
      exact (compK_two ok hb hin hset (rd_name ok hi).1 (fun X' ok' => pg_tg ok' ht) (fun X' ok' => allC c _ X' _ ok' hc f.1) (fun X' ok' => (allE el).1 _ X' _ ok' he f.2)).1
    · cases h
  | _ => exact never_f
/-- what is stored in a name: plain, or a comprehension; the fresh reading -/
theorem asgF_ok (ok : CxOk M Γ X) {a : Ex} {v : Expr} (h : mE Γ a v = true) (hn : (noComp v || isCompX a) = true) (f : fE M a) : AsgOk X Γ v (tFv (evF a)) := by
  by_cases hc : noComp v = true
  · exact asg_plain ok hc (allF a v ok h f)
  · have hx : isCompX a = true := by
      rw [Bool.or_eq_true] at hn
      exact hn.resolve_left hc
    cases a with
    | comp vs t it c el =>
      rw [mE] at h
      split at h
      · obtain ⟨_, ee⟩ := asComp_eq (by assumption)
        subst ee
        simp only [Bool.and_eq_true] at h
        obtain ⟨⟨⟨⟨⟨⟨hb, hin⟩, hset⟩, hi⟩, ht⟩, hc⟩, he⟩ := h
        exact (comp_two ok hb hin hset (fun tg => (allI it).1 Γ X tg _ ok hi f.1) (fun X' ok' => pg_tg ok' ht) (fun X' ok' => allC c _ X' _ ok' hc f.2.1) (fun X' ok' => (allE el).1 _ X' _ ok' he f.2.2)).2
      · cases h
    | compK vs t i c el =>
      rw [mE] at h
      split at h
      · obtain ⟨_, ee⟩ := asComp_eq (by assumption)
        subst ee
        simp only [Bool.and_eq_true] at h
        obtain ⟨⟨⟨⟨⟨⟨hb, hin⟩, hset⟩, hi⟩, ht⟩, hc⟩, he⟩ := h
        exact (compK_two ok hb hin hset (rd_name ok hi).1 (fun X' ok' => pg_tg ok' ht) (fun X' ok' => allC c _ X' _ ok' hc f.1) (fun X' ok' => (allE el).1 _ X' _ ok' he f.2)).2
      · cases h
    | _ => cases hx
theorem asgE_ok (ok : CxOk M Γ X) {a : Ex} {v : Expr} (h : mE Γ a v = true) (hn : (noComp v || isCompX a) = true) (f : fE M a) : AsgOk X Γ v (tEv (evE a)) := by
  by_cases hc : noComp v = true
  · exact asg_plain ok hc ((allE a).1 Γ X v ok h f)
  · have hx : isCompX a = true := by
      rw [Bool.or_eq_true] at hn
      exact hn.resolve_left hc
    have q := asgF_ok ok h hn f
    cases a with
    | comp vs t it c el => exact q.by fun σ H Q => f_e
    | compK vs t i c el => exact q.by fun σ H Q => f_e
    | _ => cases hx
end
end Fv

set_option Elab.async false
set_option linter.all false
set_option maxRecDepth 100000
set_option autoImplicit false
set_option maxHeartbeats 1600000
/-! FvF2: readings of statements. -/
namespace Fv
open PySem L2
section
variable {B H H' : Hp} {O0 own : Own} {σ : L2.St} {ρ : EnvD} {i : Nat} {v : V} {d : D} {p : Addr} {Dn : Ends}
theorem nx_of {o : Option EnvD} {out : Out} (h : nx o = some out) : ∃ ρ', o = some ρ' ∧ out = .next ρ' := by
  cases o with
  | none => cases h
  | some ρ' => exact ⟨ρ', rfl, (Option.some.inj h).symm⟩
theorem Sx.setNew' (h : Sx B O0 own σ H ρ) (e : Same H H') (n : H p = none) {u : HO} (hp : H' p = some u) (ht : isTup u = false) {c : Cell} (hc : CellOk (addO (uni O0 own) p) (addO own p) H' (some (some (.ref p))) c) :
    Sx B O0 (addO own p) (σ.set i (some (.ref p))) H' (ρ.set i c) := by
  by_cases hi : i < ρ.length
  · exact h.setNew e n hp ht hi hc
  · rw [List.set_eq_of_length_le (by rw [← h.len]; omega), List.set_eq_of_length_le (by omega)]
    exact h.owned e n hp ht
theorem flatD_of {d' : D} (h : flatD d = some d') : flat d = true ∧ d' = d := by
  unfold flatD at h
  split at h
  · exact ⟨by assumption, (Option.some.inj h).symm⟩
  · cases h
theorem flatsD_of {ds ds' : List D} (h : flatsD ds = some ds') : ds.all flat = true ∧ ds' = ds := by
  unfold flatsD at h
  split at h
  · exact ⟨by assumption, (Option.some.inj h).symm⟩
  · cases h
theorem RpA.flats {H H' : Hp} : ∀ {vs : List V} {ds : List D}, RpA H vs ds → ds.all flat = true → RpA H' vs ds
  | _, _, .nil, _ => .nil
  | _, _, .cons r t, h => by
    rw [List.all_cons, Bool.and_eq_true] at h
    exact .cons (r.flat h.1) (RpA.flats t h.2)
theorem s_asg {ev : EnvD → Option D} : tSv (fun ρ => nx ((ev ρ).map fun d => ρ.set i (.fz d))) Dn σ H → tAsg (tEv ev) (gName i) Dn σ H := fun ⟨B, O0, own, ρ, out, sx, e, q⟩ => by
  obtain ⟨ρ', h1, h2⟩ := nx_of e
  subst h2
  obtain ⟨d, h3, h4⟩ := map_some' h1
  subst h4
  exact ⟨B, O0, own, ρ, d, sx, h3, fun v H' s r => q own _ H' ((sx.up s).set' r)⟩
theorem s_asgV {ev : EnvD → Option D} : tSv (fun ρ => nx (((ev (viewE ρ)).bind flatD).map fun d => ρ.set i (.fz d))) Dn σ H → tAsg (tEv ev) (gName i) Dn σ H := fun ⟨B, O0, own, ρ, out, sx, e, q⟩ => by
  obtain ⟨ρ', h1, h2⟩ := nx_of e
  subst h2
  obtain ⟨d, h3, h4⟩ := map_some' h1
  subst h4
  obtain ⟨d', h5, h6⟩ := bind1 h3
  obtain ⟨hf, z⟩ := flatD_of h6
  subst z
  exact ⟨B, O0, _, viewE ρ, d, sx.view, h5, fun v H' s r => q own _ H' ((sx.up s).set' (r.flat hf))⟩
theorem s_asgF {ev : EnvD → Option (List D)} : tSv (fun ρ => nx ((ev ρ).map fun ds => ρ.set i (.ol ds))) Dn σ H → tAsg (tFv ev) (gName i) Dn σ H := fun ⟨B, O0, own, ρ, out, sx, e, q⟩ => by
  obtain ⟨ρ', h1, h2⟩ := nx_of e
  subst h2
  obtain ⟨ds, h3, h4⟩ := map_some' h1
  subst h4
  exact ⟨B, O0, own, ρ, ds, sx, h3, fun p xs H' n s hp r => q (addO own p) _ H' (sx.setNew' s n hp rfl ⟨p, xs, rfl, addO_at, hp, r⟩)⟩
theorem s_newK : tSv (fun ρ => nx (some (ρ.set i (.ok [])))) Dn σ H → tAsg tDNewK (gName i) Dn σ H := fun ⟨B, O0, own, ρ, out, sx, e, q⟩ p n => by
  obtain ⟨ρ', h1, h2⟩ := nx_of e
  subst h2
  have z := Option.some.inj h1
  subst z
  exact q (addO own p) _ _ (sx.setNew' (same_new n) n upd_same rfl ⟨p, [], rfl, addO_at, upd_same, .nil⟩)
theorem s_newT : tSv (fun ρ => nx (some (ρ.set i (.ot [])))) Dn σ H → tAsg tDNewT (gName i) Dn σ H := fun ⟨B, O0, own, ρ, out, sx, e, q⟩ p n => by
  obtain ⟨ρ', h1, h2⟩ := nx_of e
  subst h2
  have z := Option.some.inj h1
  subst z
  exact q (addO own p) _ _ (sx.setNew' (same_new n) n upd_same rfl ⟨p, [], rfl, addO_at, upd_same, .nil⟩)
theorem s_asgT {t : Tg} {ev : EnvD → Option D} : tSv (fun ρ => nx ((ev ρ).bind fun d => asT t d ρ)) Dn σ H → tAsg (tEv ev) (tGv t) Dn σ H := fun ⟨B, O0, own, ρ, out, sx, e, q⟩ => by
  obtain ⟨ρ', h1, h2⟩ := nx_of e
  subst h2
  obtain ⟨d, h3, h4⟩ := bind1 h1
  exact ⟨B, O0, own, ρ, d, sx, h3, fun v H' s r => ⟨B, O0, own, ρ, d, ρ', sx.up s, r, h4, fun σ' sx' _ => q own σ' H' sx'⟩⟩
/-- names from flat items that are seen otherwise -/
def tGw (is : List Nat) : TG := fun v σ H Q => ∃ B O0 own ρ ds ρ' P, Sx B O0 own σ H ρ ∧ (Rp (hide P H) v (.list ds) ∨ Rp (hide P H) v (.tuple ds)) ∧ ds.all flat = true ∧ setAll is ds ρ = some ρ' ∧ ∀ σ', Sx B O0 own σ' H ρ' → Q σ' H
theorem pg_tgw {M : Md} {Γ : Ctx} {X : Cx} (ok : CxOk M Γ X) {is : List Nat} {e : Expr} (h : tgB Γ (.tup is) e = true) : PG X e (tGw is) := by
  cases e with
  | Tuple es k pos =>
    have h' : wrsB Γ is es = true := h
    obtain ⟨a, b⟩ := wrs_assign X h'
    refine ⟨fun pins s σ H v u Q I ru ⟨B, O0, own, ρ, ds, ρ', P, sx, r, hf, ea, q⟩ => ?_⟩
    rcases r with r | r
    · cases r with
      | lst h1 r1 =>
        refine (pg_unl (n := is.length) ok.calm (pg_nms ok h') a b).run pins s σ H _ u Q I ru ⟨_, _, rfl, .inl (rd_of h1), ?_, B, O0, own, ρ, ds, ρ', sx, RpA.flats r1 hf, ea, fun σ' sx' _ => q σ' sx'⟩
        rw [pair_len r1]
        exact setAll_len ea
    · cases r with
      | tup h1 r1 =>
        refine (pg_tup (n := is.length) ok.calm (pg_nms ok h') a b).run pins s σ H _ u Q I ru ⟨_, _, rfl, .of (of_hide h1).1, ?_, B, O0, own, ρ, ds, ρ', sx, RpA.flats r1 hf, ea, fun σ' sx' _ => q σ' sx'⟩
        rw [pair_len r1]
        exact setAll_len ea
  | _ => cases h
theorem s_asgTV {is : List Nat} {ev : EnvD → Option D} : tSv (fun ρ => nx (((ev (viewE ρ)).bind itemsD).bind fun ds => (flatsD ds).bind fun ds => setAll is ds ρ)) Dn σ H → tAsg (tEv ev) (tGw is) Dn σ H := fun ⟨B, O0, own, ρ, out, sx, e, q⟩ => by
  obtain ⟨ρ', h1, h2⟩ := nx_of e
  subst h2
  obtain ⟨ds, h3, h4⟩ := bind1 h1
  obtain ⟨ds', h5, h6⟩ := bind1 h4
  obtain ⟨hf, z⟩ := flatsD_of h5
  subst z
  obtain ⟨d, h7, h8⟩ := bind1 h3
  refine ⟨B, O0, _, viewE ρ, d, sx.view, h7, fun v H' s r => ⟨B, O0, own, ρ, ds', ρ', uni O0 (fun _ => false), sx.up s, ?_, hf, h6, fun σ' sx' => q own σ' H' sx'⟩⟩
  unfold itemsD at h8
  split at h8
  · have z := Option.some.inj h8
    subst z
    exact .inl r
  · have z := Option.some.inj h8
    subst z
    exact .inr r
  · cases h8
/-! lists that are changed -/
theorem setL_of {xs : List D} {k e : D} {ys : List D} (h : setL xs k e = some ys) : ∃ j n, k = .int j ∧ ixN xs.length j = some n ∧ ys = xs.set n e := by
  unfold setL at h
  split at h
  · obtain ⟨n, h1, h2⟩ := map_some' h
    exact ⟨_, n, rfl, h1, h2.symm⟩
  · cases h
theorem cell_l (sx : Sx B O0 own σ H ρ) {xs : List D} (h : cellL ρ i = some xs) : ρ[i]? = some (.ol xs) ∧ ∃ p vs, σ[i]? = some (some (.ref p)) ∧ own p = true ∧ H p = some (.lst vs) ∧ RpA (hide (uni O0 own) H) vs xs :=
  ⟨cellL_of h, sx.cell i _ (cellL_of h)⟩
theorem Sx.writeL (sx : Sx B O0 own σ H ρ) {xs ys : List D} {vs : List V} (hc : ρ[i]? = some (.ol xs)) (hs : σ[i]? = some (some (.ref p))) (r : RpA (hide (uni O0 own) H) vs ys) : Sx B O0 own σ (upd H p (.lst vs)) (ρ.set i (.ol ys)) :=
  sx.write hc rfl hs rfl fun H' e eh op => ⟨p, vs, rfl, op, e, by rw [eh]; exact r⟩
theorem s_setI {ek ee : EnvD → Option D} : tSv (fun ρ => nx ((bind3 (cellL ρ i) (ek (viewE ρ)) (ee ρ) setL).map fun ys => ρ.set i (.ol ys))) Dn σ H → tAsg (tEv ee) (gSub (tVar i) (tEv ek) rSetL) Dn σ H := fun ⟨B, O0, own, ρ, out, sx, e, q⟩ => by
  obtain ⟨ρ', h1, h2⟩ := nx_of e
  subst h2
  obtain ⟨ys, h3, h4⟩ := map_some' h1
  subst h4
  obtain ⟨xs, kd, d, g1, g2, g3, g4⟩ := bind3' h3
  obtain ⟨k, n, e1, e2, e3⟩ := setL_of g4
  subst e1 e3
  refine ⟨B, O0, own, ρ, d, sx, g3, fun v H1 s1 r1 => ?_⟩
  obtain ⟨hc, p, vs, hs, op, hp, rr⟩ := cell_l (sx.up s1) g1
  refine ⟨_, hs, B, O0, _, viewE ρ, _, (sx.up s1).view, g2, fun u H2 s2 r2 => ?_⟩
  cases r2
  refine ⟨p, vs, k, n, rfl, rfl, s2 _ _ hp, by rw [pair_len rr]; exact e2, q own σ _ (((sx.up s1).up s2).writeL hc hs (pair_set (r1.up s2) n (rr.up s2)))⟩
theorem s_setIV {ek ee : EnvD → Option D} : tSv (fun ρ => nx ((bind3 (cellL ρ i) (ek (viewE ρ)) ((ee (viewE ρ)).bind flatD) setL).map fun ys => ρ.set i (.ol ys))) Dn σ H → tAsg (tEv ee) (gSub (tVar i) (tEv ek) rSetL) Dn σ H := fun ⟨B, O0, own, ρ, out, sx, e, q⟩ => by
  obtain ⟨ρ', h1, h2⟩ := nx_of e
  subst h2
  obtain ⟨ys, h3, h4⟩ := map_some' h1
  subst h4
  obtain ⟨xs, kd, d, g1, g2, g3, g4⟩ := bind3' h3
  obtain ⟨d', g5, g6⟩ := bind1 g3
  obtain ⟨hf, z⟩ := flatD_of g6
  subst z
  obtain ⟨k, n, e1, e2, e3⟩ := setL_of g4
  subst e1 e3
  refine ⟨B, O0, _, viewE ρ, d, sx.view, g5, fun v H1 s1 r1 => ?_⟩
  obtain ⟨hc, p, vs, hs, op, hp, rr⟩ := cell_l (sx.up s1) g1
  refine ⟨_, hs, B, O0, _, viewE ρ, _, (sx.up s1).view, g2, fun u H2 s2 r2 => ?_⟩
  cases r2
  refine ⟨p, vs, k, n, rfl, rfl, s2 _ _ hp, by rw [pair_len rr]; exact e2, q own σ _ (((sx.up s1).up s2).writeL hc hs (pair_set (r1.flat hf) n (rr.up s2)))⟩
/-- a[i], a[j] = x, y -/
theorem s_swap {K : PySem.W.Frag} {ea eb ec ed : EnvD → Option D} :
    tSv (fun ρ => nx (bind2 ((ec (viewE ρ)).bind flatD) ((ed (viewE ρ)).bind flatD) fun x y => (bind3 (cellL ρ i) (ea (viewE ρ)) (some x) setL).bind fun ys => (bind3 (some ys) (eb (viewE (ρ.set i (.ol ys)))) (some y) setL).map fun zs => (ρ.set i (.ol ys)).set i (.ol zs))) Dn σ H →
    tAsg (tTup (tCons (tEv ec) (tCons (tEv ed) tNil))) (gTup K 2 (gCons (gSub (tVar i) (tEv ea) rSetL) (gCons (gSub (tVar i) (tEv eb) rSetL) gNil))) Dn σ H := fun ⟨B, O0, own, ρ, out, sx, e, q⟩ => by
  obtain ⟨ρ', h1, h2⟩ := nx_of e
  subst h2
  obtain ⟨x, y, h3, h4, h5⟩ := bind2' h1
  obtain ⟨x', h6, h7⟩ := bind1 h3
  obtain ⟨fx, z⟩ := flatD_of h7
  subst z
  obtain ⟨y', h8, h9⟩ := bind1 h4
  obtain ⟨fy, z⟩ := flatD_of h9
  subst z
  obtain ⟨ys, g1, g2⟩ := bind1 h5
  obtain ⟨zs, g3, g4⟩ := map_some' g2
  subst g4
  obtain ⟨xs, kd, _, a1, a2, a3, a4⟩ := bind3' g1
  have z := Option.some.inj a3
  subst z
  obtain ⟨ys', kd', _, b1, b2, b3, b4⟩ := bind3' g3
  have z := Option.some.inj b3
  subst z
  have z := Option.some.inj b1
  subst z
  obtain ⟨k, n, e1, e2, e3⟩ := setL_of a4
  subst e1 e3
  obtain ⟨k', n', e1, e2', e3⟩ := setL_of b4
  subst e1 e3
  refine ⟨B, O0, _, viewE ρ, x, sx.view, h6, fun v H1 s1 r1 => ⟨B, O0, _, viewE ρ, y, (sx.up s1).view, h8, fun u H2 s2 r2 => ⟨by show 2 ≤ sizeLine; decide, fun a na => ?_⟩⟩⟩
  have s3 : Same H (upd H2 a (.tup [v, u])) := (s1.trans s2).trans (same_new na)
  refine ⟨a, _, rfl, .of upd_same, rfl, _, _, rfl, ?_⟩
  have sx3 := sx.up s3
  obtain ⟨hc, p, vs, hs, op, hp, rr⟩ := cell_l sx3 a1
  refine ⟨_, hs, B, O0, _, viewE ρ, _, sx3.view, a2, fun w H4 s4 r4 => ?_⟩
  cases r4
  have sx4 := (sx3.up s4).writeL hc hs (pair_set (r1.flat fx) n (rr.up s4))
  refine ⟨p, vs, k, n, rfl, rfl, s4 _ _ hp, by rw [pair_len rr]; exact e2, _, _, rfl, ?_⟩
  have hi : i < ρ.length := (List.getElem?_eq_some_iff.mp hc).1
  have hc' : (ρ.set i (.ol (xs.set n x)))[i]? = some (.ol (xs.set n x)) := List.getElem?_set_self hi
  have hp' : upd H4 p (.lst (vs.set n v)) p = some (.lst (vs.set n v)) := upd_same
  refine ⟨_, hs, B, O0, _, viewE (ρ.set i (.ol (xs.set n x))), _, sx4.view, b2, fun w H5 s5 r5 => ?_⟩
  cases r5
  obtain ⟨q', vs', hs', op', hq', rr'⟩ := sx4.cell i _ hc'
  rw [hs] at hs'
  have z : p = q' := V.ref.inj (Option.some.inj (Option.some.inj hs'))
  subst z
  rw [hp'] at hq'
  cases hq'
  refine ⟨p, _, k', n', rfl, rfl, s5 _ _ hp', by rw [pair_len rr']; exact e2', rfl, q own σ _ ((sx4.up s5).writeL hc' hs (pair_set (r2.flat fy) n' (rr'.up s5)))⟩
/-! dicts that are changed -/
theorem put_ok (sx : Sx B O0 own σ H ρ) {c c' : Cell} {kd e : D} {y v : V} (hc : ρ[i]? = some c) (hp : putO c kd e = some c') (ry : Rp (hide (uni O0 own) H) y kd) (rv : Rp (hide (uni O0 own) H) v e) :
    ∃ p H', σ[i]? = some (some (.ref p)) ∧ DPut H p y v H' ∧ Sx B O0 own σ H' (ρ.set i c') := by
  have q := sx.cell i c hc
  cases c with
  | un => cases hp
  | fz d => cases hp
  | ol ds => cases hp
  | ok kvs =>
    obtain ⟨p, ks, hs, op, h1, r⟩ := q
    obtain ⟨k, h2, h3⟩ := bind1 (show (keyOf kd).bind _ = some c' from hp)
    obtain ⟨hl, z⟩ := ite_some h3
    subst z
    have ey := keyOf_V h2 ry
    subst ey
    exact ⟨p, _, hs, DPut.k h1 (by rw [pair_len r]; exact hl), sx.write hc rfl hs rfl fun H' e1 eh op => ⟨p, _, rfl, op, e1, by rw [eh]; exact kvd_put rv r⟩⟩
  | ot kvs =>
    obtain ⟨p, ks, hs, op, h1, r⟩ := q
    obtain ⟨k, h2, h3⟩ := bind1 (show (tkeyOf kd).bind _ = some c' from hp)
    obtain ⟨hl, z⟩ := ite_some h3
    subst z
    unfold tkeyOf at h2
    split at h2
    · cases ry with
      | tup g1 g2 =>
        have ev := keysOf_V h2 g2
        subst ev
        exact ⟨p, _, hs, DPut.t h1 (of_hide g1).1 (by rw [pair_len r]; exact hl), sx.write hc rfl hs rfl fun H' e1 eh op => ⟨p, _, rfl, op, e1, by rw [eh]; exact kvd_put rv r⟩⟩
    · cases h2
theorem s_put {ek ee : EnvD → Option D} : tSv (fun ρ => nx ((bind3 ρ[i]? (ek ρ) (ee ρ) putO).map fun c => ρ.set i c)) Dn σ H → sDPut (tVar i) (tEv ek) (tEv ee) Dn σ H := fun ⟨B, O0, own, ρ, out, sx, e, q⟩ => by
  obtain ⟨ρ', h1, h2⟩ := nx_of e
  subst h2
  obtain ⟨c', h3, h4⟩ := map_some' h1
  subst h4
  obtain ⟨c, kd, d, g1, g2, g3, g4⟩ := bind3' h3
  refine ⟨B, O0, own, ρ, d, sx, g3, fun v H1 s1 r1 => ?_⟩
  obtain ⟨p, _, hs, _, _⟩ : ∃ p u, σ[i]? = some (some (.ref p)) ∧ own p = true ∧ H1 p = some u := by
    refine cell_ref ((sx.up s1).cell i c g1) ?_
    cases c <;> first
      | rfl
      | cases g4
  refine ⟨_, hs, B, O0, own, ρ, kd, sx.up s1, g2, fun y H2 s2 r2 => ?_⟩
  obtain ⟨p', H', hs', hd, sx'⟩ := put_ok ((sx.up s1).up s2) g1 g4 r2 (r1.up s2)
  rw [hs] at hs'
  have z : p = p' := V.ref.inj (Option.some.inj (Option.some.inj hs'))
  subst z
  exact ⟨p, H', rfl, hd, q own σ H' sx'⟩
theorem s_putV {ek ee : EnvD → Option D} : tSv (fun ρ => nx ((bind3 ρ[i]? (ek ρ) ((ee (viewE ρ)).bind flatD) putO).map fun c => ρ.set i c)) Dn σ H → sDPut (tVar i) (tEv ek) (tEv ee) Dn σ H := fun ⟨B, O0, own, ρ, out, sx, e, q⟩ => by
  obtain ⟨ρ', h1, h2⟩ := nx_of e
  subst h2
  obtain ⟨c', h3, h4⟩ := map_some' h1
  subst h4
  obtain ⟨c, kd, d, g1, g2, g3, g4⟩ := bind3' h3
  obtain ⟨d', g5, g6⟩ := bind1 g3
  obtain ⟨hf, z⟩ := flatD_of g6
  subst z
  refine ⟨B, O0, _, viewE ρ, d, sx.view, g5, fun v H1 s1 r1 => ?_⟩
  obtain ⟨p, _, hs, _, _⟩ : ∃ p u, σ[i]? = some (some (.ref p)) ∧ own p = true ∧ H1 p = some u := by
    refine cell_ref ((sx.up s1).cell i c g1) ?_
    cases c <;> first
      | rfl
      | cases g4
  refine ⟨_, hs, B, O0, own, ρ, kd, sx.up s1, g2, fun y H2 s2 r2 => ?_⟩
  obtain ⟨p', H', hs', hd, sx'⟩ := put_ok ((sx.up s1).up s2) g1 g4 r2 (r1.flat hf)
  rw [hs] at hs'
  have z : p = p' := V.ref.inj (Option.some.inj (Option.some.inj hs'))
  subst z
  exact ⟨p, H', rfl, hd, q own σ H' sx'⟩
/-! methods -/
theorem s_app {K : PySem.W.Frag} {ee : EnvD → Option D} : tSv (fun ρ => nx ((bind2 (cellL ρ i) (ee ρ) appL).map fun ys => ρ.set i (.ol ys))) Dn σ H → tDrop (tBM K "list" rAppend (tVar i) (tCons (tEv ee) tNil)) Dn σ H := fun ⟨B, O0, own, ρ, out, sx, e, q⟩ => by
  obtain ⟨ρ', h1, h2⟩ := nx_of e
  subst h2
  obtain ⟨ys, h3, h4⟩ := map_some' h1
  subst h4
  obtain ⟨xs, d, g1, g2, g3⟩ := bind2' h3
  obtain ⟨hl, z⟩ := ite_some (show (if xs.length < sizeLine then some (xs ++ [d]) else none) = some ys from g3)
  subst z
  obtain ⟨hc, p, vs, hs, op, hp, rr⟩ := cell_l sx g1
  refine ⟨_, hs, .inl ⟨rfl, vs, SqL.of hp⟩, B, O0, own, ρ, d, sx, g2, fun v H1 s1 r1 => ?_⟩
  exact ⟨p, vs, v, rfl, rfl, s1 _ _ hp, by rw [pair_len rr]; exact hl, q own σ _ ((sx.up s1).writeL hc hs (pair_app (rr.up s1) (.cons r1 .nil)))⟩
theorem s_appV {K : PySem.W.Frag} {ee : EnvD → Option D} : tSv (fun ρ => nx ((bind2 (cellL ρ i) ((ee (viewE ρ)).bind flatD) appL).map fun ys => ρ.set i (.ol ys))) Dn σ H → tDrop (tBM K "list" rAppend (tVar i) (tCons (tEv ee) tNil)) Dn σ H := fun ⟨B, O0, own, ρ, out, sx, e, q⟩ => by
  obtain ⟨ρ', h1, h2⟩ := nx_of e
  subst h2
  obtain ⟨ys, h3, h4⟩ := map_some' h1
  subst h4
  obtain ⟨xs, d, g1, g2, g3⟩ := bind2' h3
  obtain ⟨d', g5, g6⟩ := bind1 g2
  obtain ⟨hf, z⟩ := flatD_of g6
  subst z
  obtain ⟨hl, z⟩ := ite_some (show (if xs.length < sizeLine then some (xs ++ [d]) else none) = some ys from g3)
  subst z
  obtain ⟨hc, p, vs, hs, op, hp, rr⟩ := cell_l sx g1
  refine ⟨_, hs, .inl ⟨rfl, vs, SqL.of hp⟩, B, O0, _, viewE ρ, d, sx.view, g5, fun v H1 s1 r1 => ?_⟩
  exact ⟨p, vs, v, rfl, rfl, s1 _ _ hp, by rw [pair_len rr]; exact hl, q own σ _ ((sx.up s1).writeL hc hs (pair_app (rr.up s1) (.cons (r1.flat hf) .nil)))⟩
def rInsert : V → List V → Hp → VK → Prop := fun x vs H Q => ∃ (l : Addr) (xs : List V) (i : Int) (y : V), x = .ref l ∧ vs = [.int i, y] ∧ H l = some (.lst xs) ∧ xs.length < sizeLine ∧ 0 ≤ i ∧ i < 2 ^ 63 ∧
    Q .non (upd H l (.lst (xs.take i.toNat ++ [y] ++ xs.drop i.toNat)))
theorem s_insV {K : PySem.W.Frag} {ek ee : EnvD → Option D} : tSv (fun ρ => nx ((bind3 (cellL ρ i) (ek (viewE ρ)) ((ee (viewE ρ)).bind flatD) insL).map fun ys => ρ.set i (.ol ys))) Dn σ H → tDrop (tBM K "list" rInsert (tVar i) (tCons (tEv ek) (tCons (tEv ee) tNil))) Dn σ H := fun ⟨B, O0, own, ρ, out, sx, e, q⟩ => by
  obtain ⟨ρ', h1, h2⟩ := nx_of e
  subst h2
  obtain ⟨ys, h3, h4⟩ := map_some' h1
  subst h4
  obtain ⟨xs, kd, d, g1, g2, g3, g4⟩ := bind3' h3
  obtain ⟨d', g5, g6⟩ := bind1 g3
  obtain ⟨hf, z⟩ := flatD_of g6
  subst z
  unfold insL at g4
  split at g4
  · obtain ⟨hl, z⟩ := ite_some g4
    subst z
    obtain ⟨hc, p, vs, hs, op, hp, rr⟩ := cell_l sx g1
    refine ⟨_, hs, .inl ⟨rfl, vs, SqL.of hp⟩, B, O0, _, viewE ρ, _, sx.view, g2, fun u H1 s1 r1 => ⟨B, O0, _, viewE ρ, d, (sx.up s1).view, g5, fun v H2 s2 r2 => ?_⟩⟩
    cases r1
    have s3 := s1.trans s2
    exact ⟨p, vs, _, v, rfl, rfl, s3 _ _ hp, by rw [pair_len rr]; exact hl.1, hl.2.1, hl.2.2, q own σ _ ((sx.up s3).writeL hc hs (pair_app (pair_app (pair_take _ (rr.up s3)) (.cons (r2.flat hf) .nil)) (pair_drop _ (rr.up s3))))⟩
  · cases g4
theorem ite_of {c : Prop} [Decidable c] {α : Type} {a : Option α} {k : α} (h : (if c then a else none) = some k) : c ∧ a = some k := by
  split at h
  · exact ⟨by assumption, h⟩
  · cases h
theorem pair_last {α β : Type} {F : α → β → Prop} : ∀ {xs : List α} {ys : List β}, Paired F xs ys → Paired F xs.dropLast ys.dropLast
  | _, _, .nil => .nil
  | _, _, .cons r .nil => .nil
  | _, _, .cons r (.cons q t) => .cons r (pair_last (.cons q t))
theorem s_pop {K : PySem.W.Frag} {t : Tg} : tSv (fun ρ => nx (((cellL ρ i).bind popL).bind fun p => asT t p.1 (ρ.set i (.ol p.2)))) Dn σ H → tAsg (tBM0 K "list" rPop (tVar i)) (tGv t) Dn σ H := fun ⟨B, O0, own, ρ, out, sx, e, q⟩ => by
  obtain ⟨ρ', h1, h2⟩ := nx_of e
  subst h2
  obtain ⟨⟨d, ys⟩, h3, h4⟩ := bind1 h1
  obtain ⟨xs, h5, h6⟩ := bind1 h3
  obtain ⟨d', h7, h8⟩ := map_some' (show xs[xs.length - 1]?.map _ = some (d, ys) from h6)
  cases h8
  obtain ⟨hc, p, vs, hs, op, hp, rr⟩ := cell_l sx h5
  obtain ⟨x, hx, rx⟩ := pair_get rr h7
  have sx' := sx.writeL hc hs (pair_last rr)
  refine ⟨_, hs, .inl ⟨rfl, vs, SqL.of hp⟩, p, vs, x, rfl, rfl, hp, by rw [pair_len rr]; exact hx, B, O0, own, _, d, ρ', sx', ?_, h4, fun σ' sx'' _ => q own σ' _ sx''⟩
  have eh : hide (uni O0 own) (upd H p (.lst vs.dropLast)) = hide (uni O0 own) H := by
    funext a
    unfold hide
    by_cases z : a = p
    · subst z
      rw [uni_r op]
      rfl
    · rw [upd_ne z]
  rw [eh]
  exact rx
theorem s_popA {K : PySem.W.Frag} {t : Tg} {ek : EnvD → Option D} : tSv (fun ρ => nx ((bind2 (cellL ρ i) (ek (viewE ρ)) popAt).bind fun p => asT t p.1 (ρ.set i (.ol p.2)))) Dn σ H → tAsg (tBM K "list" rPopAt (tVar i) (tCons (tEv ek) tNil)) (tGv t) Dn σ H := fun ⟨B, O0, own, ρ, out, sx, e, q⟩ => by
  obtain ⟨ρ', h1, h2⟩ := nx_of e
  subst h2
  obtain ⟨⟨d, ys⟩, h3, h4⟩ := bind1 h1
  obtain ⟨xs, kd, g1, g2, g3⟩ := bind2' h3
  unfold popAt at g3
  split at g3
  · obtain ⟨hl, g4⟩ := ite_of g3
    obtain ⟨j, g5, g6⟩ := bind1 g4
    obtain ⟨d', h7, h8⟩ := map_some' g6
    cases h8
    obtain ⟨hc, p, vs, hs, op, hp, rr⟩ := cell_l sx g1
    refine ⟨_, hs, .inl ⟨rfl, vs, SqL.of hp⟩, B, O0, _, viewE ρ, _, sx.view, g2, fun u H1 s1 r1 => ?_⟩
    cases r1
    obtain ⟨x, hx, rx⟩ := pair_get (rr.up s1) h7
    have sx' := (sx.up s1).writeL hc hs (pair_del j (rr.up s1))
    refine ⟨p, vs, _, j, x, rfl, rfl, s1 _ _ hp, hl.1, hl.2, by rw [pair_len rr]; exact g5, hx, B, O0, own, _, d, ρ', sx', ?_, h4, fun σ' sx'' _ => q own σ' _ sx''⟩
    have eh : hide (uni O0 own) (upd H1 p (.lst (vs.eraseIdx j))) = hide (uni O0 own) H1 := by
      funext a
      unfold hide
      by_cases z : a = p
      · subst z
        rw [uni_r op]
        rfl
      · rw [upd_ne z]
    rw [eh]
    exact rx
  · cases g3
/-! returns -/
theorem less_own {own : Own} {H : Hp} : Same (hide (uni O0 own) H) (hide O0 H) := same_less fun a ha => uni_l ha
theorem s_ret {ev : EnvD → Option D} : tSv (fun ρ => (ev ρ).map .ret) Dn σ H → tRet (tEv ev) Dn σ H := fun ⟨B, O0, own, ρ, out, sx, e, q⟩ => by
  obtain ⟨d, h1, h2⟩ := map_some' e
  subst h2
  exact ⟨B, O0, own, ρ, d, sx, h1, fun v H' s r => q v H' (sx.base.trans s) (r.mono (same_sub less_own))⟩
theorem s_retV {ev : EnvD → Option D} : tSv (fun ρ => ((ev (viewE ρ)).bind flatD).map .ret) Dn σ H → tRet (tEv ev) Dn σ H := fun ⟨B, O0, own, ρ, out, sx, e, q⟩ => by
  obtain ⟨d, h1, h2⟩ := map_some' e
  subst h2
  obtain ⟨d', h3, h4⟩ := bind1 h1
  obtain ⟨hf, z⟩ := flatD_of h4
  subst z
  exact ⟨B, O0, _, viewE ρ, d, sx.view, h3, fun v H' s r => q v H' (sx.base.trans s) (r.flat hf)⟩
theorem base_none (sx : Sx B O0 own σ H ρ) (n : H p = none) : B p = none := by
  cases z : B p with
  | none => rfl
  | some u => rw [sx.base p u z] at n; cases n
theorem s_retF {ev : EnvD → Option (List D)} : tSv (fun ρ => (ev ρ).map .retF) Dn σ H → tRet (tFv ev) Dn σ H := fun ⟨B, O0, own, ρ, out, sx, e, q⟩ => by
  obtain ⟨d, h1, h2⟩ := map_some' e
  subst h2
  refine ⟨B, O0, own, ρ, d, sx, h1, fun p xs H' n s hp r => q p xs H' (base_none sx n) (sx.base.trans s) hp (RpA.mono (same_sub (same_less fun a ha => ?_)) _ _ r)⟩
  rcases addO_or ha with z | z
  · exact addO_l (uni_l z)
  · subst z
    exact addO_at
theorem s_retO : tSv (fun ρ => (cellL ρ i).map .retF) Dn σ H → tRet (tVar i) Dn σ H := fun ⟨B, O0, own, ρ, out, sx, e, q⟩ => by
  obtain ⟨d, h1, h2⟩ := map_some' e
  subst h2
  obtain ⟨hc, p, vs, hs, op, hp, rr⟩ := cell_l sx h1
  refine ⟨_, hs, q p vs H (sx.ow p op).1 sx.base hp (RpA.mono (same_sub (same_less fun a ha => ?_)) _ _ rr)⟩
  rcases addO_or ha with z | z
  · exact uni_l z
  · subst z
    exact uni_r op
end
end Fv

set_option Elab.async false
set_option linter.all false
set_option maxRecDepth 100000
set_option autoImplicit false
set_option maxHeartbeats 1600000
/-! FvF3: loops; what the look accepts of statements. -/
namespace Fv
open PySem L2
section
variable {B H H' : Hp} {O0 own : Own} {σ : L2.St} {ρ : EnvD} {i : Nat} {v : V} {d : D} {p : Addr} {Dn : Ends}
theorem Post.low {Dn : Ends} {B B' : Hp} {O0 : Own} {o : Out} (q : Post Dn B O0 o) (s : Same B B') (o0 : OOk O0 B) : Post Dn B' O0 o := by
  cases o with
  | next ρ' => exact fun own' σ' H' sx => q own' σ' H' (sx.lower s o0)
  | ret d => exact fun v H' e r => q v H' (s.trans e) r
  | retF ds => exact fun p xs H' n e hp r => q p xs H' (fresh_up s n) (s.trans e) hp r
theorem s_ite {ec : EnvD → Option Bool} {ea eb : EnvD → Option Out} : tSv (fun ρ => (ec (viewE ρ)).bind fun k => cond k (ea ρ) (eb ρ)) Dn σ H → tIfS (tTv ec) (tSv ea) (tSv eb) Dn σ H := fun ⟨B, O0, own, ρ, out, sx, e, q⟩ => by
  obtain ⟨k, h1, h2⟩ := bind1 e
  refine ⟨B, O0, _, viewE ρ, k, sx.view, h1, fun H1 s1 => ?_⟩
  cases k with
  | true =>
    rw [if_pos rfl]
    exact ⟨B, O0, own, ρ, out, sx.up s1, h2, q⟩
  | false =>
    rw [if_neg Bool.false_ne_true]
    exact ⟨B, O0, own, ρ, out, sx.up s1, h2, q⟩
theorem s_seq {ea eb : EnvD → Option Out} : tSv (fun ρ => (ea ρ).bind fun o => match o with | .next ρ1 => eb ρ1 | o => some o) Dn σ H → tSeq (tSv ea) (tSv eb) Dn σ H := fun ⟨B, O0, own, ρ, out, sx, e, q⟩ => by
  obtain ⟨o, h1, h2⟩ := bind1 e
  cases o with
  | next ρ1 => exact ⟨B, O0, own, ρ, .next ρ1, sx, h1, fun own' σ' H' sx' => ⟨B, O0, own', ρ1, out, sx', h2, q⟩⟩
  | ret d =>
    have z := Option.some.inj h2
    subst z
    exact ⟨B, O0, own, ρ, .ret d, sx, h1, q⟩
  | retF d =>
    have z := Option.some.inj h2
    subst z
    exact ⟨B, O0, own, ρ, .retF d, sx, h1, q⟩
theorem s_frz {eb : EnvD → Option Out} : tSv (fun ρ => (nx ((ρ[i]?.bind frzC).map fun c => ρ.set i c)).bind fun o => match o with | .next ρ1 => eb ρ1 | o => some o) Dn σ H → tSv eb Dn σ H := fun ⟨B, O0, own, ρ, out, sx, e, q⟩ => by
  obtain ⟨o, h1, h2⟩ := bind1 e
  obtain ⟨ρ', h3, z⟩ := nx_of h1
  subst z
  obtain ⟨c, h4, z⟩ := map_some' h3
  subst z
  obtain ⟨ci, h5, h6⟩ := bind1 h4
  obtain ⟨oc, z⟩ := ite_some (show (if ci.isOwn = true then some ci.view else none) = some c from h6)
  subst z
  obtain ⟨own', sx'⟩ := sx.freeze h5 oc
  exact ⟨B, O0, own', _, out, sx', h2, q⟩
theorem s_while {ec : EnvD → Option Bool} {eb : EnvD → Option Out} {n : Nat} : tSv (fun ρ => whileGo (fun ρ => ec (viewE ρ)) eb n ρ) Dn σ H → tWhile (tTv ec) (tSv eb) Dn σ H := fun ⟨B, O0, own, ρ, out, sx, e, q⟩ => by
  refine ⟨fun m σ H => ∃ own ρ, Sx B O0 own σ H ρ ∧ whileGo (fun ρ => ec (viewE ρ)) eb m ρ = some out, ⟨n, own, ρ, sx, e⟩, ?_⟩
  rintro m σ1 H1 ⟨own1, ρ1, sx1, e1⟩
  cases m with
  | zero => cases e1
  | succ m =>
    obtain ⟨k, h1, h2⟩ := bind1 (show (ec (viewE ρ1)).bind _ = some out from e1)
    refine ⟨B, O0, _, viewE ρ1, k, sx1.view, h1, fun H2 s2 => ?_⟩
    cases k with
    | false =>
      rw [if_neg Bool.false_ne_true]
      have z := Option.some.inj (show some (Out.next ρ1) = some out from h2)
      subst z
      exact q own1 σ1 H2 (sx1.up s2)
    | true =>
      rw [if_pos rfl]
      obtain ⟨o, h3, h4⟩ := bind1 (show (eb ρ1).bind _ = some out from h2)
      refine ⟨fun σ' H' => ∃ own ρ, Sx B O0 own σ' H' ρ ∧ whileGo (fun ρ => ec (viewE ρ)) eb m ρ = some out, fun σ' H' w => ⟨m, Nat.lt_succ_self m, w⟩, ?_⟩
      cases o with
      | next ρ2 => exact ⟨B, O0, own1, ρ1, .next ρ2, sx1.up s2, h3, fun own' σ' H' sx' => ⟨own', ρ2, sx', h4⟩⟩
      | ret d =>
        have z := Option.some.inj h4
        subst z
        exact ⟨B, O0, own1, ρ1, .ret d, sx1.up s2, h3, q⟩
      | retF d =>
        have z := Option.some.inj h4
        subst z
        exact ⟨B, O0, own1, ρ1, .retF d, sx1.up s2, h3, q⟩
theorem for_core {wi : TI} {t : Tg} {eb : EnvD → Option Out} {ds : List D} {out : Out} (sx : Sx B O0 own σ H ρ) (e : forGo (asT t) eb ds ρ = some out) (q : Post Dn B O0 out)
    (hwi : ∀ R : L2.It → Hp → Prop, (∀ J H1, Same H H1 → Walk J ds O0 (hide own H1) → R J H1) → wi σ H R) : tFor wi (tGv t) (tSv eb) Dn σ H := by
  refine hwi _ fun J H1 s1 wk => ?_
  have sx1 := (sx.up s1).rebase
  have q1 : Post Dn (hide own H1) O0 out := q.low (sx.up s1).sameB (sx.o0)
  refine ⟨fun i m Hσ Hc => m = ds.length - i ∧ i ≤ ds.length ∧ ∃ own2 ρ2, Sx (hide own H1) O0 own2 Hσ Hc ρ2 ∧ forGo (asT t) eb (ds.drop i) ρ2 = some out, ⟨ds.length, by simp, Nat.zero_le _, own, ρ, sx1, by rw [List.drop_zero]; exact e⟩, ?_⟩
  rintro i m σc Hc ⟨rfl, hi, own2, ρ2, sx2, e2⟩
  obtain ⟨w1, w2⟩ := wk sx1.o0 i Hc own2 sx2.base sx2.ow
  by_cases c : i < ds.length
  · right
    obtain ⟨d, hd⟩ : ∃ d, ds[i]? = some d := ⟨_, List.getElem?_eq_getElem c⟩
    obtain ⟨g1, g2⟩ := w1 d hd
    have hdrop : ds.drop i = d :: ds.drop (i + 1) := by
      rw [List.drop_eq_getElem_cons c]
      rw [List.getElem?_eq_getElem c] at hd
      rw [Option.some.inj hd]
    rw [hdrop] at e2
    obtain ⟨ρ3, h1, h2⟩ := bind1 (show (asT t d ρ2).bind _ = some out from e2)
    obtain ⟨o, h3, h4⟩ := bind1 h2
    refine ⟨g1, fun σ' H' => i + 1 ≤ ds.length ∧ ∃ own2 ρ2, Sx (hide own H1) O0 own2 σ' H' ρ2 ∧ forGo (asT t) eb (ds.drop (i + 1)) ρ2 = some out, fun σ' H' hn => ⟨ds.length - (i + 1), by omega, rfl, hn⟩, fun x H' hy => ?_⟩
    obtain ⟨e0, rx⟩ := g2 x H' hy
    subst e0
    refine ⟨_, O0, own2, ρ2, d, ρ3, sx2, rx, h1, fun σ3 sx3 _ => ?_⟩
    cases o with
    | next ρ4 => exact ⟨_, O0, own2, ρ3, .next ρ4, sx3, h3, fun own' σ' H' sx' => ⟨c, own', ρ4, sx', h4⟩⟩
    | ret d =>
      have z := Option.some.inj h4
      subst z
      exact ⟨_, O0, own2, ρ3, .ret d, sx3, h3, q1⟩
    | retF d =>
      have z := Option.some.inj h4
      subst z
      exact ⟨_, O0, own2, ρ3, .retF d, sx3, h3, q1⟩
  · left
    have ei : i = ds.length := by omega
    refine ⟨w2 (by omega), ?_⟩
    have hnil : ds.drop i = [] := List.drop_eq_nil_of_le (by omega)
    rw [hnil] at e2
    have z := Option.some.inj (show some (Out.next ρ2) = some out from e2)
    subst z
    exact q1 own2 σc Hc sx2
theorem s_for {t : Tg} {ei : EnvD → Option (List D)} {eb : EnvD → Option Out} : tSv (fun ρ => (ei ρ).bind fun ds => forGo (asT t) eb ds ρ) Dn σ H → tFor (tIv ei) (tGv t) (tSv eb) Dn σ H := fun ⟨B, O0, own, ρ, out, sx, e, q⟩ => by
  obtain ⟨ds, h1, h2⟩ := bind1 e
  exact for_core sx h2 q fun R r => ⟨B, O0, own, ρ, ds, sx, h1, r⟩
/-- a loop over a dict, in either state -/
theorem forK_core {t : Tg} {eb : EnvD → Option Out} (h : tSv (fun ρ => ((cellD ρ i).bind keysF).bind fun ds => forGo (asT t) eb ds ρ) Dn σ H) :
    tLock (tFor (tKv i) (tGv t) (tSv eb)) Dn σ H ∨ tFor (tKv i) (tGv t) (tSv eb) Dn σ H := by
  obtain ⟨B, O0, own, ρ, out, sx, e, q⟩ := h
  obtain ⟨ds, h1, h2⟩ := bind1 e
  obtain ⟨dd, h5, h6⟩ := bind1 h1
  unfold keysF at h6
  split at h6
  · rename_i kvs
    have z := Option.some.inj h6
    subst z
    obtain ⟨v, g1, g2⟩ := sx.cell i _ (cellD_of h5)
    obtain ⟨d, u, ev, hrd, hu⟩ : ∃ d u, v = .ref d ∧ Rd (hide (uni O0 own) H) d u ∧ isDict u = true := by
      cases g2 with
      | dK a _ _ => exact ⟨_, _, rfl, a, rfl⟩
      | dT a _ _ => exact ⟨_, _, rfl, a, rfl⟩
    subst ev
    have vis : uni O0 own d = false := by
      rcases hrd with z | ⟨o, z⟩
      · exact (of_hide z).2
      · exact (of_hide z).2
    rcases hrd with z | ⟨o, z⟩
    · have hd := (of_hide z).1
      have mu : Mut (some u) := by
        cases u <;> first
          | trivial
          | cases hu
      have sxr := sx.rebase
      have own_n : own d = false := by
        cases w : own d with
        | false => rfl
        | true => rw [uni_r w] at vis; cases vis
      have hB : hide own H d = some u := by rw [hide_out own_n]; exact hd
      have q' : Post Dn (hide own H) O0 out := q.low sx.sameB sx.o0
      refine .inl ⟨d, u, hd, mu, fun od => ?_⟩
      have sxl := sxr.lock (od := od) hd hu vis
      have back : ∀ {H' : Hp}, Same (lockB (hide own H) d (.frz od u)) H' → H' d = some (.frz od u) ∧ Same (hide own H) (upd H' d u) := fun {H'} s => ⟨s d _ (by unfold lockB; rw [if_pos rfl, hB]; rfl), lockB_back (fun w hw => by rw [hB] at hw; exact (Option.some.inj hw).symm) s⟩
      refine for_core sxl h2 ?_ fun R r => ⟨_, O0, own, ρ, kvs, d, sxl, h5, g1, ⟨od, u, upd_same⟩, vis, fun J w => r J _ (Same.refl _) w⟩
      cases out with
      | ret dr =>
        intro v H' s r
        obtain ⟨hd', s'⟩ := back s
        exact ⟨hd', q' v _ s' (r.mono (sub_unlock hd' hu))⟩
      | retF dr =>
        intro p xs H' n s hp r
        obtain ⟨hd', s'⟩ := back s
        have np : p ≠ d := fun z => by
          subst z
          rw [hp] at hd'
          cases hd'
        refine ⟨hd', q' p xs _ ?_ s' (by rw [upd_ne np]; exact hp) (RpA.mono (sub_unlock hd' hu) _ _ r)⟩
        unfold lockB at n
        rw [if_neg np] at n
        exact n
      | next ρ' =>
        intro own' σ' H' sx'
        obtain ⟨hd', s'⟩ := back sx'.base
        refine ⟨hd', q' own' σ' _ ?_⟩
        have vis' : uni O0 own' d = false := by
          cases w : uni O0 own' d with
          | false => rfl
          | true =>
            obtain ⟨u', e1, e2⟩ := sx'.ook d w
            rw [hd'] at e1
            cases e1
            exfalso
            rcases uni_or w with w | w
            · rw [uni_l w] at vis; cases vis
            · have := (sx'.ow d w).1
              unfold lockB at this
              rw [if_pos rfl, hB] at this
              cases this
        exact {
          base := s'
          o0 := sxr.o0
          ow := fun a ha => by
            have ne : a ≠ d := fun z => by
              subst z
              rw [uni_r ha] at vis'
              cases vis'
            obtain ⟨e1, w, e2, e3⟩ := sx'.ow a ha
            unfold lockB at e1
            rw [if_neg ne] at e1
            exact ⟨e1, w, by rw [upd_ne ne]; exact e2, e3⟩
          len := sx'.len
          cell := fun j c hc => (sx'.cell j c hc).to (sub_unlock hd' hu) fun a w o _ _ hw => ⟨o, by
            have ne : a ≠ d := fun z => by
              subst z
              rw [uni_r o] at vis'
              cases vis'
            rw [upd_ne ne]
            exact hw⟩
          dis := sx'.dis }
    · have hd := (of_hide z).1
      exact .inr (for_core sx h2 q fun R r => ⟨B, O0, own, ρ, kvs, d, sx, h5, g1, ⟨o, u, hd⟩, vis, fun J w => r J _ (Same.refl _) w⟩)
  · cases h6
theorem forK_ps {X : Cx} {t : Tg} {eb : EnvD → Option Out} {st : Stmt} (h : PS X st (tFor (tKv i) (tGv t) (tSv eb))) : PS X st (tSv fun ρ => ((cellD ρ i).bind keysF).bind fun ds => forGo (asT t) eb ds ρ) := by
  refine ⟨fun pins s σ H Dn I q => ?_⟩
  rcases forK_core q with w | w
  · exact (ps_lock h).run pins s σ H Dn I w
  · exact h.run pins s σ H Dn I w
end
end Fv

set_option Elab.async false
set_option linter.all false
set_option maxRecDepth 100000
set_option autoImplicit false
set_option maxHeartbeats 1600000
/-! FvF4: what the look accepts of statements. -/
namespace Fv
open PySem L2
theorem asAsg_eq {s : Stmt} {t v : Expr} (h : asAsg s = some (t, v)) : ∃ p, s = .Assign [t] v p := by
  unfold asAsg at h; split at h <;> first | (cases h; exact ⟨_, rfl⟩) | cases h
theorem asEx_eq {s : Stmt} {e : Expr} (h : asEx s = some e) : ∃ p, s = .Expr e p := by
  unfold asEx at h; split at h <;> first | (cases h; exact ⟨_, rfl⟩) | cases h
theorem asRet_eq {s : Stmt} {e : Expr} (h : asRet s = some e) : ∃ p, s = .Return (some e) p := by
  unfold asRet at h; split at h <;> first | (cases h; exact ⟨_, rfl⟩) | cases h
theorem asIf_eq {s : Stmt} {e : Expr} {p q : List Stmt} (h : asIf s = some (e, p, q)) : ∃ w, s = .If e p q w := by
  unfold asIf at h; split at h <;> first | (cases h; exact ⟨_, rfl⟩) | cases h
theorem asFor_eq {s : Stmt} {t e : Expr} {p : List Stmt} (h : asFor s = some (t, e, p)) : ∃ w, s = .For t e p [] w := by
  unfold asFor at h; split at h <;> first | (cases h; exact ⟨_, rfl⟩) | cases h
theorem asWh_eq {s : Stmt} {e : Expr} {p : List Stmt} (h : asWh s = some (e, p)) : ∃ w, s = .While e p [] w := by
  unfold asWh at h; split at h <;> first | (cases h; exact ⟨_, rfl⟩) | cases h
theorem isNewD_eq {e : Expr} (h : isNewD e = true) : ∃ p, e = .Dict [] [] p := by
  unfold isNewD at h; split at h <;> first | exact ⟨_, rfl⟩ | cases h
def isStarE : Expr → Bool
  | .Starred .. => true
  | _ => false
theorem no_stars {vs : List Expr} (h : vs.all noStar = true) : vs.any isStarE = false := by
  rw [List.any_eq_false]
  intro e he
  rw [List.all_eq_true] at h
  have := h e he
  cases e <;> first
    | exact Bool.false_ne_true
    | cases this
def pickN (env : PySem.Env) (l : Nat) : Expr → Option Str
  | .Name id pos => if (env.kindOf id == some .local && pos.line == l) = true then some id else none
  | _ => none
section
variable {M : Md} {Γ : Ctx} {X : Cx}
theorem pick_names {env : PySem.Env} (hs : env.scope = Γ.sc) {l : Nat} : ∀ {ts : List Expr} {ns : List Str}, namesOf Γ l ts = some ns → ts.filterMap (pickN env l) = ns ∧ ns.length = ts.length
  | [], ns, h => by
    cases h
    exact ⟨rfl, rfl⟩
  | e :: ts, ns, h => by
    cases e with
    | Name id pos =>
      unfold namesOf at h
      obtain ⟨c, h2⟩ := ite_of h
      obtain ⟨ms, h3, h4⟩ := map_some' h2
      obtain ⟨a, b⟩ := pick_names hs h3
      subst h4
      have hp : pickN env l (.Name id pos) = some id := by
        unfold pickN Env.kindOf
        rw [hs]
        exact if_pos c
      rw [List.filterMap_cons_some hp, a]
      exact ⟨rfl, by simp [b]⟩
    | _ => cases h
theorem par_stores (ok : CxOk M Γ X) {ts vs : List Expr} {pt pt2 : Pos} {kt k2 : Nat} (h : parB Γ ts vs = true) :
    ∃ ns, swappedStores [.Tuple ts kt pt] (.Tuple vs k2 pt2) X.env = pure (some ns) ∧ namesOf Γ ((ts.head?.map (·.pos.line)).getD 0) ts = some ns ∧ ns.eraseDups.length = ns.length := by
  unfold parB at h
  simp only [Bool.and_eq_true, Bool.not_eq_true'] at h
  obtain ⟨⟨⟨⟨⟨h0, h1⟩, h2⟩, h3⟩, h4⟩, h5⟩ := h
  split at h3
  · rename_i ns hn
    obtain ⟨e1, e2⟩ := pick_names (env := X.env) ok.sc hn
    refine ⟨ns, ?_, hn, eq_of_beq h3⟩
    have hk : (X.env.blockKind != ScopeKind.function) = false := by
      unfold Env.blockKind
      rw [ok.sc, ok.kind]
      rfl
    show (if (!(ts.length == 2 || ts.length == 3) || vs.length != ts.length || X.env.blockKind != .function) = true then (pure none : Sem (Option (List Str))) else if vs.any isStarE = true then pure none
      else if ((ts.filterMap (pickN X.env ((ts.head?.map (·.pos.line)).getD 0))).length != ts.length || (ts.filterMap (pickN X.env ((ts.head?.map (·.pos.line)).getD 0))).eraseDups.length != (ts.filterMap (pickN X.env ((ts.head?.map (·.pos.line)).getD 0))).length) = true then pure none
      else if vs.all (foldedForSure 8) = true then pure none else if vs.all (constantsAlone 8) = true then unsupported "assign.tuple-of-constant-expressions:order-of-the-stores" else pure (some (ts.filterMap (pickN X.env ((ts.head?.map (·.pos.line)).getD 0))))) = pure (some ns)
    rw [e1, if_neg, if_neg, if_neg, if_neg, if_neg]
    · rw [h5]; exact Bool.false_ne_true
    · rw [h4]; exact Bool.false_ne_true
    · rw [eq_of_beq h3, e2]
      simp
    · rw [no_stars h2]; exact Bool.false_ne_true
    · rw [h0, hk, eq_of_beq h1]
      simp
  · cases h3
theorem wr_name {i : Nat} {e : Expr} (h : wrB Γ i e = true) : ∃ x p, e = .Name x p ∧ Γ.N[i]? = some x := by
  unfold wrB at h
  split at h
  · rw [Bool.and_eq_true] at h
    exact ⟨_, _, rfl, of_decide_eq_true h.1⟩
  · cases h
theorem wrs_len : ∀ {is : List Nat} {es : List Expr}, wrsB Γ is es = true → is.length = es.length
  | [], [], _ => rfl
  | [], _ :: _, h => by cases h
  | _ :: _, [], h => by cases h
  | i :: is, e :: es, h => by
    have h' : wrB Γ i e = true ∧ wrsB Γ is es = true := by simpa [wrsB] using h
    simp [wrs_len h'.2]
theorem wrs_cons {i : Nat} {is : List Nat} {e : Expr} {es : List Expr} (h : wrsB Γ (i :: is) (e :: es) = true) : wrB Γ i e = true ∧ wrsB Γ is es = true := by simpa [wrsB] using h
theorem names_cons {l : Nat} {x : Str} {p : Pos} {ts : List Expr} {ns : List Str} (h : namesOf Γ l (.Name x p :: ts) = some ns) : Γ.sc.names.lookup x = some .local ∧ ∃ ms, namesOf Γ l ts = some ms ∧ ns = x :: ms := by
  unfold namesOf at h
  obtain ⟨c, h2⟩ := ite_of h
  obtain ⟨ms, h3, h4⟩ := map_some' h2
  rw [Bool.and_eq_true] at c
  exact ⟨eq_of_beq c.1, ms, h3, h4.symm⟩
theorem ne_two {x y : Str} (h : ([x, y] : List Str).eraseDups.length = 2) : x ≠ y := by
  intro e
  subst e
  simp [List.eraseDups_cons] at h
theorem ne_three {x y z : Str} (h : ([x, y, z] : List Str).eraseDups.length = 3) : x ≠ y ∧ x ≠ z ∧ y ≠ z := by
  refine ⟨?_, ?_, ?_⟩
  · intro e
    subst e
    simp only [List.eraseDups_cons, List.filter_cons, beq_self_eq_true] at h
    by_cases c : z = x <;> simp [c, List.eraseDups_cons] at h
  · intro e
    subst e
    simp only [List.eraseDups_cons, List.filter_cons, beq_self_eq_true] at h
    by_cases c : y = x <;> simp [c, List.eraseDups_cons] at h
  · intro e
    subst e
    simp only [List.eraseDups_cons, List.filter_cons, beq_self_eq_true] at h
    by_cases c : y = x <;> simp [c, List.eraseDups_cons] at h
/-- the two kinds of a parallel store -/
def parDone : List Nat → List V → Ends → L2.St → Hp → Prop
  | [i, j], vs, Dn, σ, H => ∃ v w, vs = [v, w] ∧ Dn.nx ((σ.set i (some v)).set j (some w)) H
  | [i, j, l], vs, Dn, σ, H => ∃ u v w, vs = [u, v, w] ∧ Dn.nx (((σ.set i (some u)).set j (some v)).set l (some w)) H
  | _, _, _, _, _ => False
theorem parDone_of {B H : Hp} {O0 own : Own} {σ : L2.St} {ρ ρ' : EnvD} {Dn : Ends} {is : List Nat} {ds : List D} {vs : List V} (hl : is.length = 2 ∨ is.length = 3) (sx : Sx B O0 own σ H ρ) (r : RpA (hide (uni O0 own) H) vs ds) (e : setAll is ds ρ = some ρ') (q : ∀ σ', Sx B O0 own σ' H ρ' → Dn.nx σ' H) : parDone is vs Dn σ H := by
  match is, hl, e with
  | [i, j], _, e =>
    match ds, r, e with
    | [d1, d2], .cons r1 (.cons r2 .nil), e =>
      have z := Option.some.inj (show some ((ρ.set i (.fz d1)).set j (.fz d2)) = some ρ' from e)
      subst z
      exact ⟨_, _, rfl, q _ ((sx.set' r1).set' r2)⟩
    | [], _, e => cases e
    | [_], _, e => cases e
    | _ :: _ :: _ :: _, _, e => cases e
  | [i, j, l], _, e =>
    match ds, r, e with
    | [d1, d2, d3], .cons r1 (.cons r2 (.cons r3 .nil)), e =>
      have z := Option.some.inj (show some (((ρ.set i (.fz d1)).set j (.fz d2)).set l (.fz d3)) = some ρ' from e)
      subst z
      exact ⟨_, _, _, rfl, q _ (((sx.set' r1).set' r2).set' r3)⟩
    | [], _, e => cases e
    | [_], _, e => cases e
    | [_, _], _, e => cases e
    | _ :: _ :: _ :: _ :: _, _, e => cases e
  | [], hl, _ => simp at hl
  | [_], hl, _ => simp at hl
  | _ :: _ :: _ :: _ :: _, hl, _ => simp at hl
theorem s_par {ev : EnvD → Option (List D)} {is : List Nat} {Dn : Ends} {σ : L2.St} {H : Hp} (hl : is.length = 2 ∨ is.length = 3) : tSv (fun ρ => nx ((ev ρ).bind fun ds => setAll is ds ρ)) Dn σ H → tAv ev σ H fun vs H1 => parDone is vs Dn σ H1 := fun ⟨B, O0, own, ρ, out, sx, e, q⟩ => by
  obtain ⟨ρ', h1, h2⟩ := nx_of e
  subst h2
  obtain ⟨ds, h3, h4⟩ := bind1 h1
  exact ⟨B, O0, own, ρ, ds, sx, h3, fun vs H1 s1 r1 => parDone_of hl (sx.up s1) r1 h4 fun σ' sx' => q own σ' H1 sx'⟩
theorem s_parV {ev : EnvD → Option (List D)} {is : List Nat} {Dn : Ends} {σ : L2.St} {H : Hp} (hl : is.length = 2 ∨ is.length = 3) : tSv (fun ρ => nx (((ev (viewE ρ)).bind flatsD).bind fun ds => setAll is ds ρ)) Dn σ H → tAv ev σ H fun vs H1 => parDone is vs Dn σ H1 := fun ⟨B, O0, own, ρ, out, sx, e, q⟩ => by
  obtain ⟨ρ', h1, h2⟩ := nx_of e
  subst h2
  obtain ⟨ds, h3, h4⟩ := bind1 h1
  obtain ⟨ds', h5, h6⟩ := bind1 h3
  obtain ⟨hf, z⟩ := flatsD_of h6
  subst z
  exact ⟨B, O0, _, viewE ρ, ds, sx.view, h5, fun vs H1 s1 r1 => parDone_of hl (sx.up s1) (RpA.flats r1 hf) h4 fun σ' sx' => q own σ' H1 sx'⟩
theorem ps_parB (ok : CxOk M Γ X) {is : List Nat} {ts vs : List Expr} {ta : TA} {pt pt2 pos : Pos} {kt k2 : Nat} (hw : wrsB Γ is ts = true) (hp : parB Γ ts vs = true) (ha : PA X vs ta) :
    PS X (.Assign [.Tuple ts kt pt] (.Tuple vs k2 pt2) pos) (fun Dn σ H => ta σ H fun vs H1 => parDone is vs Dn σ H1) ∧ (is.length = 2 ∨ is.length = 3) := by
  obtain ⟨ns, h1, h2, h3⟩ := par_stores ok (pt := pt) (pt2 := pt2) (kt := kt) (k2 := k2) hp
  have hlen : (ts.length = 2 ∨ ts.length = 3) ∧ vs.length = ts.length := by
    unfold parB at hp
    simp only [Bool.and_eq_true, Bool.or_eq_true, beq_iff_eq] at hp
    exact hp.1.1.1.1
  have hN : X.N.Nodup := by rw [ok.N]; exact ok.nd
  obtain ⟨l2, lv⟩ := hlen
  refine ⟨?_, by rw [wrs_len hw]; exact l2⟩
  rcases l2 with l2 | l2
  · match ts, vs, is, l2, lv, hw, h1, h2, ha with
    | [t1, t2], [v1, v2], [i, j], _, _, hw, h1, h2, ha =>
      obtain ⟨w1, hw⟩ := wrs_cons hw
      obtain ⟨w2, _⟩ := wrs_cons hw
      obtain ⟨x, px, ex, nx⟩ := wr_name w1
      obtain ⟨y, py, ey, ny⟩ := wr_name w2
      subst ex ey
      obtain ⟨lx, ms, h4, h5⟩ := names_cons h2
      obtain ⟨ly, ms', h6, h7⟩ := names_cons h4
      cases h6
      subst h7 h5
      have hne := ne_two h3
      have hij : i ≠ j := fun e => by
        subst e
        rw [nx] at ny
        exact hne (Option.some.inj ny)
      exact ps_par ok.calm hN (by rw [ok.N]; exact nx) (by rw [ok.N]; exact ny) hij (by rw [ok.sc]; exact lx) (by rw [ok.sc]; exact ly) ha h1
    | [_, _], [_, _], [], _, _, hw, _, _, _ => cases hw
    | [_, _], [_, _], [_], _, _, hw, _, _, _ => exact absurd (wrs_len hw) (by simp)
    | [_, _], [_, _], _ :: _ :: _ :: _, _, _, hw, _, _, _ => exact absurd (wrs_len hw) (by simp)
  · match ts, vs, is, l2, lv, hw, h1, h2, ha with
    | [t1, t2, t3], [v1, v2, v3], [i, j, l], _, _, hw, h1, h2, ha =>
      obtain ⟨w1, hw⟩ := wrs_cons hw
      obtain ⟨w2, hw⟩ := wrs_cons hw
      obtain ⟨w3, _⟩ := wrs_cons hw
      obtain ⟨x, px, ex, nx⟩ := wr_name w1
      obtain ⟨y, py, ey, ny⟩ := wr_name w2
      obtain ⟨z, pz, ez, nz⟩ := wr_name w3
      subst ex ey ez
      obtain ⟨lx, ms, h4, h5⟩ := names_cons h2
      obtain ⟨ly, ms', h6, h7⟩ := names_cons h4
      obtain ⟨lz, ms'', h8, h9⟩ := names_cons h6
      cases h8
      subst h9 h7 h5
      obtain ⟨n1, n2, n3⟩ := ne_three h3
      exact ps_par3 ok.calm hN (by rw [ok.N]; exact nx) (by rw [ok.N]; exact ny) (by rw [ok.N]; exact nz) (fun e => by
        subst e
        rw [nx] at ny
        exact n1 (Option.some.inj ny)) (fun e => by
        subst e
        rw [nx] at nz
        exact n2 (Option.some.inj nz)) (fun e => by
        subst e
        rw [ny] at nz
        exact n3 (Option.some.inj nz)) (by rw [ok.sc]; exact lx) (by rw [ok.sc]; exact ly) (by rw [ok.sc]; exact lz) ha h1
    | [_, _, _], [_, _, _], [], _, _, hw, _, _, _ => cases hw
    | [_, _, _], [_, _, _], [_], _, _, hw, _, _, _ => exact absurd (wrs_len hw) (by simp)
    | [_, _, _], [_, _, _], [_, _], _, _, hw, _, _, _ => exact absurd (wrs_len hw) (by simp)
    | [_, _, _], [_, _, _], _ :: _ :: _ :: _ :: _, _, _, hw, _, _, _ => exact absurd (wrs_len hw) (by simp)
end
end Fv

set_option Elab.async false
set_option linter.all false
set_option maxRecDepth 100000
set_option autoImplicit false
set_option maxHeartbeats 1600000
/-! FvF5: statements: the one theorem. -/
namespace Fv
open PySem L2
theorem sw_none {t v : Expr} {env : PySem.Env} (h : isTupE v = false) : swappedStores [t] v env = pure none := by
  cases t <;> cases v <;> first
    | rfl
    | cases h
theorem sw_sub {o j v : Expr} {p : Pos} {env : PySem.Env} : swappedStores [.Subscript o j p] v env = pure none := by
  cases v <;> rfl
theorem as_sub {o j : Expr} {p : Pos} {env : PySem.Env} (h : noSlice j = true) : ∀ v, assign (.Subscript o j p) env v = (do
      let ov ← holding [v] (eval o env)
      let iv ← holding [v, ov] (eval j env)
      standAt p
      holding [v, ov, iv] (setItem ov iv v)
      release [v, ov, iv] []) := by
  intro v
  cases j <;> first
    | rfl
    | cases h
theorem swaps_sole {t v : Expr} {l : Nat} {env : PySem.Env} (h : noComp v = true) : swapsWithSole [t] v l env = pure false := swaps_no h
theorem sw_swap {o o' a b v w : Expr} {p p' pt pt2 : Pos} {kt k2 : Nat} {env : PySem.Env} : swappedStores [.Tuple [.Subscript o a p, .Subscript o' b p'] kt pt] (.Tuple [v, w] k2 pt2) env = pure none := by
  show (if (!([Expr.Subscript o a p, .Subscript o' b p'].length == 2 || [Expr.Subscript o a p, .Subscript o' b p'].length == 3) || [v, w].length != [Expr.Subscript o a p, .Subscript o' b p'].length || env.blockKind != .function) = true then (pure none : Sem (Option (List Str))) else if [v, w].any isStarE = true then pure none
      else if (0 != 2 || ([] : List Str).eraseDups.length != 0) = true then pure none
      else if [v, w].all (foldedForSure 8) = true then pure none else if [v, w].all (constantsAlone 8) = true then unsupported "assign.tuple-of-constant-expressions:order-of-the-stores" else pure (some [])) = pure none
  split
  · rfl
  · split
    · rfl
    · rfl
theorem tg_each {Γ : Ctx} {t : Tg} {e : Expr} {env : PySem.Env} (h : tgB Γ t e = true) : (assignEach [e] env).map (·.2) = [assign e env] := by
  cases t with
  | nm i =>
    obtain ⟨x, p, ee, _⟩ := wr_name (show wrB Γ i e = true from h)
    subst ee
    rfl
  | tup is =>
    cases e <;> first
      | rfl
      | cases h
section
variable {M : Md} {Γ : Ctx} {X : Cx}
theorem as_app {e : Expr} {cpos : Pos} {env : PySem.Env} (h : noStar e = true) : ((backTo cpos (starEach [e] env)).all (fun x => !x.1) && (backToKw cpos (keywordEach [] env)).all (fun x => x.1.isSome)
      && decide (([e] : List Expr).length + ([] : List Keyword).length + (if ([] : List Keyword).isEmpty then 0 else 1) < 30)) = true := by
  rw [star_one h]
  rfl
theorem as_app2 {e e' : Expr} {cpos : Pos} {env : PySem.Env} (h : noStar e = true) (h' : noStar e' = true) : ((backTo cpos (starEach [e, e'] env)).all (fun x => !x.1) && (backToKw cpos (keywordEach [] env)).all (fun x => x.1.isSome)
      && decide (([e, e'] : List Expr).length + ([] : List Keyword).length + (if ([] : List Keyword).isEmpty then 0 else 1) < 30)) = true := by
  rw [star_two h h']
  rfl
def GS (M : Md) (a : Sm) : Prop := ∀ (Γ : Ctx) (X : Cx) (st : Stmt), CxOk M Γ X → mS Γ a st = true → fS M a → PS X st (tSv (evS a))
def GSs (M : Md) (a : Ss) : Prop := ∀ (Γ : Ctx) (X : Cx) (st : List Stmt), CxOk M Γ X → mSs Γ a st = true → fSs M a → PSs X st (tSv (evSs a))
theorem never_s {st : Stmt} : PS X st (tSv fun _ => none) := ⟨fun _ _ _ _ _ _ ⟨_, _, _, _, _, _, e, _⟩ => nomatch e⟩
theorem passes (ok : CxOk M Γ X) : PassesOwn (model X.prog X.w) X.A X.env X.xe := by
  rw [ok.xe]
  exact PassesOwn.never
mutual
theorem allS : ∀ a : Sm, GS M a
  | .asg i e => fun Γ X st ok h f => by
    rw [mS] at h
    split at h
    · obtain ⟨_, ee⟩ := asAsg_eq (by assumption)
      subst ee
      simp only [Bool.and_eq_true] at h
      exact PS.by (asgE_ok ok h.1.2 h.2 f _ _ _ h.1.1) fun Dn σ H => s_asg
    · cases h
  | .asgV i e => fun Γ X st ok h f => by
    rw [mS] at h
    split at h
    · obtain ⟨_, ee⟩ := asAsg_eq (by assumption)
      subst ee
      simp only [Bool.and_eq_true] at h
      exact PS.by (asgE_ok ok h.1.2 h.2 f _ _ _ h.1.1) fun Dn σ H => s_asgV
    · cases h
  | .asgF i e => fun Γ X st ok h f => by
    rw [mS] at h
    split at h
    · obtain ⟨_, ee⟩ := asAsg_eq (by assumption)
      subst ee
      simp only [Bool.and_eq_true] at h
      exact PS.by (asgF_ok ok h.1.2 h.2 f _ _ _ h.1.1) fun Dn σ H => s_asgF
    · cases h
  | .newK i => fun Γ X st ok h f => by
    rw [mS] at h
    split at h
    · obtain ⟨_, ee⟩ := asAsg_eq (by assumption)
      subst ee
      simp only [Bool.and_eq_true] at h
      obtain ⟨p, en⟩ := isNewD_eq h.2
      subst en
      exact PS.by (asg_plain ok rfl pe_dnewK _ _ _ h.1) fun Dn σ H => s_newK
    · cases h
  | .newT i => fun Γ X st ok h f => by
    rw [mS] at h
    split at h
    · obtain ⟨_, ee⟩ := asAsg_eq (by assumption)
      subst ee
      simp only [Bool.and_eq_true] at h
      obtain ⟨p, en⟩ := isNewD_eq h.2
      subst en
      exact PS.by (asg_plain ok rfl pe_dnewT _ _ _ h.1) fun Dn σ H => s_newT
    · cases h
  | .asgT is e => fun Γ X st ok h f => by
    rw [mS] at h
    split at h
    · obtain ⟨_, ee⟩ := asAsg_eq (by assumption)
      subst ee
      simp only [Bool.and_eq_true, Bool.not_eq_true'] at h
      obtain ⟨⟨⟨ht, he⟩, hn⟩, hq⟩ := h
      exact PS.by (ps_asg ((allE e).1 Γ X _ ok he f) (pg_tg ok ht) (swaps_no hn) (sw_none hq) (tg_each ht)) fun Dn σ H => s_asgT
    · cases h
  | .asgTV is e => fun Γ X st ok h f => by
    rw [mS] at h
    split at h
    · obtain ⟨_, ee⟩ := asAsg_eq (by assumption)
      subst ee
      simp only [Bool.and_eq_true, Bool.not_eq_true'] at h
      obtain ⟨⟨⟨ht, he⟩, hn⟩, hq⟩ := h
      exact PS.by (ps_asg ((allE e).1 Γ X _ ok he f) (pg_tgw ok ht) (swaps_no hn) (sw_none hq) (tg_each ht)) fun Dn σ H => s_asgTV
    · cases h
  | .par is as => fun Γ X st ok h f => by
    rw [mS] at h
    split at h
    · obtain ⟨_, ee⟩ := asAsg_eq (by assumption)
      subst ee
      split at h
      · rename_i hts hvs
        obtain ⟨_, _, e1⟩ := asTup_eq hts
        obtain ⟨_, _, e2⟩ := asTup_eq hvs
        subst e1 e2
        simp only [Bool.and_eq_true] at h
        obtain ⟨⟨hw, ha⟩, hp⟩ := h
        obtain ⟨q, hl⟩ := ps_parB ok (pt := _) (pt2 := _) (pos := _) (kt := _) (k2 := _) hw hp (allA as Γ X _ ok ha f)
        exact PS.by q fun Dn σ H => s_par hl
      · cases h
    · cases h
  | .parV is as => fun Γ X st ok h f => by
    rw [mS] at h
    split at h
    · obtain ⟨_, ee⟩ := asAsg_eq (by assumption)
      subst ee
      split at h
      · rename_i hts hvs
        obtain ⟨_, _, e1⟩ := asTup_eq hts
        obtain ⟨_, _, e2⟩ := asTup_eq hvs
        subst e1 e2
        simp only [Bool.and_eq_true] at h
        obtain ⟨⟨hw, ha⟩, hp⟩ := h
        obtain ⟨q, hl⟩ := ps_parB ok (pt := _) (pt2 := _) (pos := _) (kt := _) (k2 := _) hw hp (allA as Γ X _ ok ha f)
        exact PS.by q fun Dn σ H => s_parV hl
      · cases h
    · cases h
  | .setI i k e => fun Γ X st ok h f => by
    rw [mS] at h
    split at h
    · obtain ⟨_, ee⟩ := asAsg_eq (by assumption)
      subst ee
      split at h
      · obtain ⟨_, es⟩ := asSub_eq (by assumption)
        subst es
        simp only [Bool.and_eq_true] at h
        obtain ⟨⟨⟨⟨ho, hk⟩, he⟩, hn⟩, hj⟩ := h
        obtain ⟨pn, x, p, ee⟩ := rd_name ok ho
        subst ee
        exact PS.by (ps_asg ((allE e).1 Γ X _ ok he f.2) (pg_sub pn ((allE k).1 Γ X _ ok hk f.1) set_list (as_sub hj)) (swaps_sole hn) sw_sub rfl) fun Dn σ H => s_setI
      · cases h
    · cases h
  | .setIV i k e => fun Γ X st ok h f => by
    rw [mS] at h
    split at h
    · obtain ⟨_, ee⟩ := asAsg_eq (by assumption)
      subst ee
      split at h
      · obtain ⟨_, es⟩ := asSub_eq (by assumption)
        subst es
        simp only [Bool.and_eq_true] at h
        obtain ⟨⟨⟨⟨ho, hk⟩, he⟩, hn⟩, hj⟩ := h
        obtain ⟨pn, x, p, ee⟩ := rd_name ok ho
        subst ee
        exact PS.by (ps_asg ((allE e).1 Γ X _ ok he f.2) (pg_sub pn ((allE k).1 Γ X _ ok hk f.1) set_list (as_sub hj)) (swaps_sole hn) sw_sub rfl) fun Dn σ H => s_setIV
      · cases h
    · cases h
  | .swap i a b c d => fun Γ X st ok h f => by
    rw [mS] at h
    split at h
    · obtain ⟨_, ee⟩ := asAsg_eq (by assumption)
      subst ee
      split at h
      · rename_i hts hvs
        obtain ⟨_, _, e1⟩ := asTup_eq hts
        obtain ⟨_, _, e2⟩ := asTup_eq hvs
        subst e1 e2
        split at h
        · rename_i h1 h2
          obtain ⟨_, e1⟩ := asSub_eq h1
          obtain ⟨_, e2⟩ := asSub_eq h2
          subst e1 e2
          simp only [Bool.and_eq_true] at h
          obtain ⟨⟨⟨⟨⟨⟨⟨⟨⟨ho, ho'⟩, ha⟩, hb⟩, hc⟩, hd⟩, n1⟩, n2⟩, j1⟩, j2⟩ := h
          obtain ⟨pn, x, p, ee⟩ := rd_name ok ho
          obtain ⟨pn', x', p', ee'⟩ := rd_name ok ho'
          subst ee ee'
          exact PS.by (ps_asg (pe_tup (pa_cons ((allE c).1 Γ X _ ok hc f.2.2.1) (pa_cons ((allE d).1 Γ X _ ok hd f.2.2.2) pa_nil (star1 n2)) (star1 n1)))
            (pg_tup ok.calm (pgs_cons (pg_sub pn ((allE a).1 Γ X _ ok ha f.1) set_list (as_sub j1)) (pgs_cons (pg_sub pn' ((allE b).1 Γ X _ ok hb f.2.1) set_list (as_sub j2)) pgs_nil))) rfl sw_swap rfl) fun Dn σ H => s_swap
        · cases h
      · cases h
    · cases h
  | .put i k e => fun Γ X st ok h f => by
    rw [mS] at h
    split at h
    · obtain ⟨_, ee⟩ := asAsg_eq (by assumption)
      subst ee
      split at h
      · obtain ⟨_, es⟩ := asSub_eq (by assumption)
        subst es
        simp only [Bool.and_eq_true] at h
        obtain ⟨⟨⟨ho, hk⟩, he⟩, hn⟩ := h
        have hu := ok.un
        exact PS.by (ps_dput (by omega) (rd_name ok ho).1 ((allE k).1 Γ X _ ok hk f.1) ((allE e).1 Γ X _ ok he f.2) (swaps_no hn)) fun Dn σ H => s_put
      · cases h
    · cases h
  | .putV i k e => fun Γ X st ok h f => by
    rw [mS] at h
    split at h
    · obtain ⟨_, ee⟩ := asAsg_eq (by assumption)
      subst ee
      split at h
      · obtain ⟨_, es⟩ := asSub_eq (by assumption)
        subst es
        simp only [Bool.and_eq_true] at h
        obtain ⟨⟨⟨ho, hk⟩, he⟩, hn⟩ := h
        have hu := ok.un
        exact PS.by (ps_dput (by omega) (rd_name ok ho).1 ((allE k).1 Γ X _ ok hk f.1) ((allE e).1 Γ X _ ok he f.2) (swaps_no hn)) fun Dn σ H => s_putV
      · cases h
    · cases h
  | .app i e => fun Γ X st ok h f => by
    rw [mS] at h
    split at h
    · rename_i hb
      obtain ⟨ex, h1, h2⟩ := bind1 hb
      obtain ⟨_, e1⟩ := asEx_eq h1
      obtain ⟨_, _, e2, hl⟩ := asMe1_eq h2
      subst e1 e2
      simp only [Bool.and_eq_true, beq_iff_eq] at h
      obtain ⟨⟨⟨hm, ho⟩, hs⟩, he⟩ := h
      subst hm
      obtain ⟨pn, x, p, ee⟩ := rd_name ok ho
      subst ee
      exact PS.by (ps_expr (pe_bm PySem.F.plainAttrs_list PySem.F.slot_list_append PySem.F.type_list_append mt_append pn (pa_cons ((allE e).1 Γ X _ ok he f) pa_nil (star1 hs)) rfl (as_app hs) hl (star1 hs) rfl)) fun Dn σ H => s_app
    · cases h
  | .appV i e => fun Γ X st ok h f => by
    rw [mS] at h
    split at h
    · rename_i hb
      obtain ⟨ex, h1, h2⟩ := bind1 hb
      obtain ⟨_, e1⟩ := asEx_eq h1
      obtain ⟨_, _, e2, hl⟩ := asMe1_eq h2
      subst e1 e2
      simp only [Bool.and_eq_true, beq_iff_eq] at h
      obtain ⟨⟨⟨hm, ho⟩, hs⟩, he⟩ := h
      subst hm
      obtain ⟨pn, x, p, ee⟩ := rd_name ok ho
      subst ee
      exact PS.by (ps_expr (pe_bm PySem.F.plainAttrs_list PySem.F.slot_list_append PySem.F.type_list_append mt_append pn (pa_cons ((allE e).1 Γ X _ ok he f) pa_nil (star1 hs)) rfl (as_app hs) hl (star1 hs) rfl)) fun Dn σ H => s_appV
    · cases h
  | .insV i k e => fun Γ X st ok h f => by
    rw [mS] at h
    split at h
    · rename_i hb
      obtain ⟨ex, h1, h2⟩ := bind1 hb
      obtain ⟨_, e1⟩ := asEx_eq h1
      obtain ⟨_, _, e2, hl⟩ := asMe2_eq h2
      subst e1 e2
      simp only [Bool.and_eq_true, beq_iff_eq] at h
      obtain ⟨⟨⟨⟨⟨hm, ho⟩, hs⟩, hs'⟩, hk⟩, he⟩ := h
      subst hm
      obtain ⟨pn, x, p, ee⟩ := rd_name ok ho
      subst ee
      exact PS.by (ps_expr (pe_bm PySem.F.plainAttrs_list PySem.F.slot_list_insert PySem.F.type_list_insert mt_insert pn (pa_cons ((allE k).1 Γ X _ ok hk f.1) (pa_cons ((allE e).1 Γ X _ ok he f.2) pa_nil (star1 hs')) (star1 hs)) rfl (as_app2 hs hs') hl (star1 hs) (by rw [star1 hs']; rfl))) fun Dn σ H => s_insV
    · cases h
  | .ext i e => fun Γ X st ok h f => never_s
  | .pop t i => fun Γ X st ok h f => by
    rw [mS] at h
    split at h
    · obtain ⟨_, ee⟩ := asAsg_eq (by assumption)
      subst ee
      split at h
      · obtain ⟨_, _, e2, hl⟩ := asMe0_eq (by assumption)
        subst e2
        simp only [Bool.and_eq_true, beq_iff_eq] at h
        obtain ⟨⟨hm, ho⟩, ht⟩ := h
        subst hm
        obtain ⟨pn, x, p, ee⟩ := rd_name ok ho
        subst ee
        exact PS.by (ps_asg (pe_bm0 PySem.F.plainAttrs_list PySem.F.slot_list_pop PySem.F.type_list_pop mt_pop pn rfl hl) (pg_tg ok ht) rfl (sw_none rfl) (tg_each ht)) fun Dn σ H => s_pop
      · cases h
    · cases h
  | .popA t i k => fun Γ X st ok h f => by
    rw [mS] at h
    split at h
    · obtain ⟨_, ee⟩ := asAsg_eq (by assumption)
      subst ee
      split at h
      · obtain ⟨_, _, e2, hl⟩ := asMe1_eq (by assumption)
        subst e2
        simp only [Bool.and_eq_true, beq_iff_eq] at h
        obtain ⟨⟨⟨⟨hm, ho⟩, hs⟩, hk⟩, ht⟩ := h
        subst hm
        obtain ⟨pn, x, p, ee⟩ := rd_name ok ho
        subst ee
        exact PS.by (ps_asg (pe_bm PySem.F.plainAttrs_list PySem.F.slot_list_pop PySem.F.type_list_pop mt_popAt pn (pa_cons ((allE k).1 Γ X _ ok hk f) pa_nil (star1 hs)) rfl (as_app hs) hl (star1 hs) rfl) (pg_tg ok ht) rfl (sw_none rfl) (tg_each ht)) fun Dn σ H => s_popA
      · cases h
    · cases h
  | .frz i => fun Γ X st ok h f => absurd (show false = true from h) Bool.false_ne_true
  | .ret e => fun Γ X st ok h f => by
    rw [mS] at h
    split at h
    · obtain ⟨_, ee⟩ := asRet_eq (by assumption)
      subst ee
      exact PS.by (ps_ret ((allE e).1 Γ X _ ok h f)) fun Dn σ H => s_ret
    · cases h
  | .retV e => fun Γ X st ok h f => by
    rw [mS] at h
    split at h
    · obtain ⟨_, ee⟩ := asRet_eq (by assumption)
      subst ee
      exact PS.by (ps_ret ((allE e).1 Γ X _ ok h f)) fun Dn σ H => s_retV
    · cases h
  | .retF e => fun Γ X st ok h f => by
    rw [mS] at h
    split at h
    · obtain ⟨_, ee⟩ := asRet_eq (by assumption)
      subst ee
      exact PS.by (ps_ret (allF e _ ok h f)) fun Dn σ H => s_retF
    · cases h
  | .retO i => fun Γ X st ok h f => by
    rw [mS] at h
    split at h
    · obtain ⟨_, ee⟩ := asRet_eq (by assumption)
      subst ee
      exact PS.by (ps_ret (rd_name ok h).1) fun Dn σ H => s_retO
    · cases h
  | .ite c a b => fun Γ X st ok h f => by
    rw [mS] at h
    split at h
    · obtain ⟨_, ee⟩ := asIf_eq (by assumption)
      subst ee
      simp only [Bool.and_eq_true] at h
      exact PS.by (ps_if ((allE c).2.1 Γ X _ ok h.1.1 f.1) (allSs a Γ X _ ok h.1.2 f.2.1) (allSs b Γ X _ ok h.2 f.2.2)) fun Dn σ H => s_ite
    · cases h
  | .for_ t it b => fun Γ X st ok h f => by
    rw [mS] at h
    split at h
    · obtain ⟨_, ee⟩ := asFor_eq (by assumption)
      subst ee
      simp only [Bool.and_eq_true] at h
      obtain ⟨⟨⟨hs, ht⟩, hi⟩, hb⟩ := h
      exact PS.by (ps_for (passes ok) ok.calm ((allI it).1 Γ X _ _ ok hi f.1) (pg_tg ok ht) (allSs b Γ X _ ok hb f.2) (set_ix hs)) fun Dn σ H => s_for
    · cases h
  | .forK t i b => fun Γ X st ok h f => by
    rw [mS] at h
    split at h
    · obtain ⟨_, ee⟩ := asFor_eq (by assumption)
      subst ee
      simp only [Bool.and_eq_true] at h
      obtain ⟨⟨⟨hs, ht⟩, hi⟩, hb⟩ := h
      exact forK_ps (ps_for (passes ok) ok.calm (pi_tK (rd_name ok hi).1) (pg_tg ok ht) (allSs b Γ X _ ok hb f) (set_ix hs))
    · cases h
  | .while_ n c b => fun Γ X st ok h f => by
    rw [mS] at h
    split at h
    · obtain ⟨_, ee⟩ := asWh_eq (by assumption)
      subst ee
      simp only [Bool.and_eq_true] at h
      exact PS.by (ps_while (passes ok) ((allE c).2.1 Γ X _ ok h.1 f.1) (allSs b Γ X _ ok h.2 f.2)) fun Dn σ H => s_while
    · cases h
theorem allSs : ∀ a : Ss, GSs M a
  | .nil => fun Γ X sts ok h f => by
    cases sts with
    | nil =>
      refine PSs.by pss_nil fun Dn σ H ⟨B, O0, own, ρ, out, sx, e, q⟩ => ?_
      have z := Option.some.inj (show some (Out.next ρ) = some out from e)
      subst z
      exact q own σ H sx
    | cons _ _ => cases h
  | .cons s r => fun Γ X sts ok h f => by
    rw [mSs] at h
    cases hz : isFrz s with
    | true =>
      rw [hz] at h
      have q := allSs r Γ X sts ok h f.2
      cases s <;> first
        | exact PSs.by q fun Dn σ H => s_frz
        | cases hz
    | false =>
      rw [hz] at h
      cases sts with
      | nil => cases h
      | cons st sts =>
        have h' : mS Γ s st = true ∧ mSs Γ r sts = true := by
          have : (mS Γ s st && mSs Γ r sts) = true := h
          rw [Bool.and_eq_true] at this
          exact this
        exact PSs.by (pss_cons (allS s Γ X st ok h'.1 f.1) (allSs r Γ X sts ok h'.2 f.2)) fun Dn σ H => s_seq
end
end
end Fv

set_option Elab.async false
set_option linter.all false
set_option maxRecDepth 100000
set_option autoImplicit false
set_option maxHeartbeats 1600000
/-! FvG: a def keeps what the evaluator tells; the end of a law. -/
namespace Fv
open PySem L2
/-- M at another level -/
abbrev Md.lv (M : Md) (k : Nat) : Md := { M with k := k }
theorem start_ok {H : Hp} {O : Own} {vs : List V} {ds : List D} {N : List Str} (oo : OOk O H) (r : RpA (hide O H) vs ds) : Sx H O (fun _ => false) (L2.start N vs) H (start0 N.length ds) where
  base := Same.refl _
  o0 := oo
  ow := fun p hp => by cases hp
  len := by
    unfold L2.start start0
    rw [List.length_append, List.length_append, List.length_map, List.length_map, List.length_replicate, List.length_replicate, pair_len r]
  cell := fun i c hc => by
    have hh : Same (hide O H) (hide (uni O fun _ => false) H) := same_less fun a ha => by
      rcases uni_or ha with z | z
      · exact z
      · cases z
    unfold start0 at hc
    by_cases hi : i < ds.length
    · rw [List.getElem?_append_left (by simpa using hi), List.getElem?_map] at hc
      cases hd : ds[i]? with
      | none => rw [hd] at hc; cases hc
      | some d =>
        rw [hd] at hc
        have z := Option.some.inj hc
        subst z
        obtain ⟨v, hv, rv⟩ := pair_get r hd
        refine ⟨v, ?_, rv.mono (same_sub hh)⟩
        unfold L2.start
        rw [List.getElem?_append_left (by rw [List.length_map, pair_len r]; exact hi), List.getElem?_map, hv]
        rfl
    · rw [List.getElem?_append_right (by simpa using hi), List.getElem?_replicate] at hc
      split at hc
      · have z := Option.some.inj hc
        subst z
        trivial
      · cases hc
  dis := fun i j ci cj p h1 _ o1 => by
    unfold start0 at h1
    by_cases hi : i < ds.length
    · rw [List.getElem?_append_left (by simpa using hi), List.getElem?_map] at h1
      cases hd : ds[i]? with
      | none => rw [hd] at h1; cases h1
      | some d =>
        rw [hd] at h1
        have z := Option.some.inj h1
        subst z
        cases o1
    · rw [List.getElem?_append_right (by simpa using hi), List.getElem?_replicate] at h1
      split at h1
      · have z := Option.some.inj h1
        subst z
        cases o1
      · cases h1
section
variable {M : Md} {x : Str} {st : Stmt} {f : Addr} {fd : FuncData} {N ps : List Str} {b : Ss}
theorem cx_of {cdv : Value} {A : Around} {outer : List PySem.Env} {s : Shared} {H : Hp} {E : XK} {k : Nat} (S : FnScope N ps (defScope st)) (hb : ∀ x ∈ bltNames, M.mg x = none)
    (hg : (A.deeper (PyProof.Rows.envOfC x (defScope st) s.heap.objs.size f cdv)).guards = some []) (hr : Room k (A.deeper (PyProof.Rows.envOfC x (defScope st) s.heap.objs.size f cdv))) : CxOk (M.lv k) ⟨N, defScope st, fun _ => true⟩ (cxOf CX0 M.P M.w M.K M.mg M.base N x (defScope st) f cdv A outer s H E).nox where
  prog := rfl
  w := rfl
  K := rfl
  mg := rfl
  base := rfl
  room := hr
  gd := hg
  N := rfl
  sc := rfl
  fn := rfl
  nd := S.nd
  kind := S.kind
  calm := rfl
  xe := rfl
  blt := hb
/-- a def that returns data -/
theorem def_P {k : Nat} (F : L2.Fun M.K x x st f fd) (S : FnScope N ps (defScope st)) (hm : mSs ⟨N, defScope st, fun _ => true⟩ b (defBody st) = true) (hf : fSs (M.lv k) b) (hb : ∀ x ∈ bltNames, M.mg x = none) :
    GnOk M.P M.w M.K M.mg M.base (k + 1) f fd ps (spP (runD ps.length N.length b)) := by
  refine gn_of F S (fun vs H Q E ⟨O, ds, d, oo, r, e, q⟩ => ?_) fun cdv A outer s H vs Q hg hr ⟨O, ds, d, oo, r, e, q⟩ => ?_
  · rw [pair_len r]
    exact (ite_of e).1
  · obtain ⟨_, e2⟩ := ite_of e
    obtain ⟨out, e3, e4⟩ := bind1 e2
    refine ⟨_, allSs b _ _ _ (cx_of S hb hg hr) hm hf, H, O, _, _, out, start_ok oo r, e3, ?_⟩
    cases out with
    | next ρ' =>
      have z := Option.some.inj e4
      subst z
      exact fun own' σ' H' sx' => q .non H' sx'.base .non
    | ret d' =>
      have z := Option.some.inj e4
      subst z
      exact fun v H' s r => q v H' s r
    | retF d' => cases e4
/-- a def that returns a new list -/
theorem def_F {k : Nat} (F : L2.Fun M.K x x st f fd) (S : FnScope N ps (defScope st)) (hm : mSs ⟨N, defScope st, fun _ => true⟩ b (defBody st) = true) (hf : fSs (M.lv k) b) (hb : ∀ x ∈ bltNames, M.mg x = none) :
    GnOk M.P M.w M.K M.mg M.base (k + 1) f fd ps (spF (runF ps.length N.length b)) := by
  refine gn_of F S (fun vs H Q E ⟨O, ds, d, oo, r, e, q⟩ => ?_) fun cdv A outer s H vs Q hg hr ⟨O, ds, d, oo, r, e, q⟩ => ?_
  · rw [pair_len r]
    exact (ite_of e).1
  · obtain ⟨_, e2⟩ := ite_of e
    obtain ⟨out, e3, e4⟩ := bind1 e2
    refine ⟨_, allSs b _ _ _ (cx_of S hb hg hr) hm hf, H, O, _, _, out, start_ok oo r, e3, ?_⟩
    cases out with
    | next ρ' => cases e4
    | ret d' => cases e4
    | retF d' =>
      have z := Option.some.inj e4
      subst z
      exact fun p xs H' n s hp r => q p xs H' n s hp r
/-- what stands behind the top of a def: its text, its name, how its arguments bind -/
structure Tp (M : Md) (x : Str) (st : Stmt) (ps : List Str) : Prop where
  ex : ∃ f fd, L2.Fun M.K x x st f fd ∧ M.mg x = some (.ref f) ∧ Binds M.K fd ps []
theorem at_P {k : Nat} (T : Tp M x st ps) (S : FnScope N ps (defScope st)) (hm : mSs ⟨N, defScope st, fun _ => true⟩ b (defBody st) = true) (hf : fSs (M.lv k) b) (hb : ∀ x ∈ bltNames, M.mg x = none) :
    FnAt (M.lv (k + 1)) x (spP (runD ps.length N.length b)) := by
  obtain ⟨f, fd, F, h1, h2⟩ := T.ex
  exact ⟨f, fd, ps, h1, F.kp, def_P F S hm hf hb, h2⟩
theorem at_F {k : Nat} (T : Tp M x st ps) (S : FnScope N ps (defScope st)) (hm : mSs ⟨N, defScope st, fun _ => true⟩ b (defBody st) = true) (hf : fSs (M.lv k) b) (hb : ∀ x ∈ bltNames, M.mg x = none) :
    FnAt (M.lv (k + 1)) x (spF (runF ps.length N.length b)) := by
  obtain ⟨f, fd, F, h1, h2⟩ := T.ex
  exact ⟨f, fd, ps, h1, F.kp, def_F F S hm hf hb, h2⟩
theorem FnAt.to {j k : Nat} {sp : Sp} (h : FnAt (M.lv j) x sp) (hj : j ≤ k) : FnAt (M.lv k) x sp := by
  obtain ⟨f, fd, ps, h1, h2, h3, h4⟩ := h
  exact ⟨f, fd, ps, h1, h2, h3.at_ hj, h4⟩
end
def scriptD (ns : List Int) : D := .list (ns.map .int)
theorem rp_script {H : Hp} : ∀ ns : List Int, RpA H (ns.map V.int) (ns.map PyData.int)
  | [] => .nil
  | n :: ns => .cons (.int n) (rp_script ns)
theorem law_sp {f : List D → Option D} {ns : List Int} (hf : f [scriptD ns] = some (.bool true)) {H : Hp} {a : Addr} (hS : Rd H a (.lst (ns.map V.int))) : spP f [.ref a] H (fun v _ => v = .bl true) E0 := by
  refine ⟨fun _ => false, [scriptD ns], .bool true, fun p hp => (by cases hp), .cons (.lst ?_ (rp_script ns)) .nil, hf, fun v H' s r => ?_⟩
  · have e : hide (fun _ => false) H = H := by
      funext b
      rfl
    rw [e]
    exact hS
  · cases r
    rfl
end Fv

set_option Elab.async false
set_option linter.all false
set_option maxRecDepth 100000
set_option autoImplicit false
set_option maxHeartbeats 1600000
/-! FvL: the plain laws of the evaluator: data, subscripts, sorting, loops. -/
namespace Fv
open PySem L2
/-! ### data -/
def intsD' (ns : List Int) : D := .list (ns.map .int)
theorem canAll_ints : ∀ ns : List Int, PyData.canLayAll0 (ns.map PyData.int) = true
  | [] => rfl
  | n :: ns => by
    rw [List.map_cons]
    simp only [PyData.canLayAll0, PyData.canLay0, Bool.true_and]
    exact canAll_ints ns
theorem depthAll_ints : ∀ ns : List Int, PyData.depthAll (ns.map PyData.int) ≤ 1
  | [] => by simp [PyData.depthAll]
  | n :: ns => by
    have := depthAll_ints ns
    rw [List.map_cons]
    simp only [PyData.depthAll, PyData.depth]
    omega
theorem shaped_int (n : Int) : SeqAt.shaped (.int n) = true := by
  simp [SeqAt.shaped, PyData.canLay0, PyData.depth]
theorem shaped_bool (n : Bool) : SeqAt.shaped (.bool n) = true := by
  simp [SeqAt.shaped, PyData.canLay0, PyData.depth]
theorem shaped_ints (ns : List Int) : SeqAt.shaped (.list (ns.map PyData.int)) = true := by
  have h := depthAll_ints ns
  simp only [SeqAt.shaped, PyData.canLay0, canAll_ints, PyData.depth, Bool.true_and]
  exact decide_eq_true (by omega)
/-- a pair of ints -/
abbrev pairD (p : Int × Int) : D := .tuple [.int p.1, .int p.2]
theorem canAll_pairs : ∀ ns : List (Int × Int), PyData.canLayAll0 (ns.map pairD) = true
  | [] => rfl
  | n :: ns => by
    rw [List.map_cons]
    simp only [PyData.canLayAll0, PyData.canLay0, Bool.true_and]
    exact canAll_pairs ns
theorem depthAll_pairs : ∀ ns : List (Int × Int), PyData.depthAll (ns.map pairD) ≤ 4
  | [] => by simp [PyData.depthAll]
  | n :: ns => by
    have := depthAll_pairs ns
    rw [List.map_cons]
    simp only [PyData.depthAll, PyData.depth]
    omega
theorem shaped_pair (p : Int × Int) : SeqAt.shaped (pairD p) = true := by
  simp [SeqAt.shaped, PyData.canLay0, PyData.canLayAll0, PyData.depth, PyData.depthAll]
theorem shaped_pairs (ns : List (Int × Int)) : SeqAt.shaped (.list (ns.map pairD)) = true := by
  have h := depthAll_pairs ns
  simp only [SeqAt.shaped, PyData.canLay0, canAll_pairs, PyData.depth, Bool.true_and]
  exact decide_eq_true (by omega)
theorem eqv_int (a b : Int) : PyData.eqv (.int a) (.int b) = decide (a = b) := by
  simp only [PyData.eqv]
  by_cases h : a = b
  · subst h; simp
  · simp [h]
theorem eqv_pair (p q : Int × Int) : PyData.eqv (pairD p) (pairD q) = decide (p = q) := by
  obtain ⟨a, b⟩ := p
  obtain ⟨c, d⟩ := q
  simp only [PyData.eqv, PyData.eqvAll, Bool.and_true]
  by_cases h : a = c <;> by_cases h2 : b = d <;> simp [h, h2]
theorem eqvAll_map {α : Type} [DecidableEq α] {f : α → D} (hf : ∀ a b, PyData.eqv (f a) (f b) = decide (a = b)) : ∀ xs ys : List α, PyData.eqvAll (xs.map f) (ys.map f) = decide (xs = ys)
  | [], [] => by simp [PyData.eqvAll]
  | [], y :: ys => by simp [PyData.eqvAll]
  | x :: xs, [] => by simp [PyData.eqvAll]
  | x :: xs, y :: ys => by
    rw [List.map_cons, List.map_cons]
    simp only [PyData.eqvAll, hf, eqvAll_map hf xs ys]
    by_cases h : x = y <;> by_cases h2 : xs = ys <;> simp [h, h2]
theorem eqv_ints (a b : List Int) : PyData.eqv (.list (a.map .int)) (.list (b.map .int)) = decide (a = b) := by
  simp only [PyData.eqv]
  exact eqvAll_map eqv_int a b
theorem eqv_pairs (a b : List (Int × Int)) : PyData.eqv (.list (a.map pairD)) (.list (b.map pairD)) = decide (a = b) := by
  simp only [PyData.eqv]
  exact eqvAll_map eqv_pair a b
theorem cop_int (op : Cop) (a b : Int) : copD op (.int a) (.int b) = some (copI op a b) := by
  cases op <;> simp [copD, ordD, copI, shaped_int, eqv_int]
theorem in_ints (neg : Bool) (x : Int) (ns : List Int) : inD neg (.int x) (.list (ns.map .int)) = some (xor neg (decide (x ∈ ns))) := by
  unfold inD
  simp only [shaped_ints, shaped_int, Bool.and_self, if_true, List.any_map, Option.some.injEq]
  congr 1
  induction ns with
  | nil => simp
  | cons n ns ih =>
    simp only [List.any_cons, Function.comp, eqv_int] at ih ⊢
    rw [ih]
    by_cases h : n = x
    · subst h; simp
    · have h' : ¬ x = n := fun z => h z.symm
      simp [h, h']
/-! ### subscripts -/
theorem at_nat {α : Type} {xs : List α} {i : Int} {x : α} (h0 : 0 ≤ i) (h : xs[i.toNat]? = some x) : atI xs i = some x := by
  obtain ⟨lt, _⟩ := List.getElem?_eq_some_iff.mp h
  unfold atI ixN
  rw [if_pos h0, if_pos (by omega)]
  exact h
theorem ixN_nat {n : Nat} {i : Int} (h0 : 0 ≤ i) (h : i < n) : ixN n i = some i.toNat := by
  unfold ixN
  rw [if_pos h0, if_pos h]
/-! ### order -/
open PyProof.Rows in
theorem leD_int (a b : Int) : leD (.int a) (.int b) = decide (a ≤ b) := by
  show (!lexLt itemOrd [Sum.inl b] [Sum.inl a]) = _
  rw [show lexLt itemOrd [Sum.inl b] [Sum.inl a] = decide (b < a) from by
    rw [lex_cons]
    show (decide (b < a) || (!decide (a < b) && lexLt itemOrd [] [])) = _
    have : lexLt itemOrd [] [] = false := lex_irrefl _
    rw [this]
    simp]
  by_cases h : b < a
  · simp [h, Int.not_le.mpr h]
  · simp [h, Int.not_lt.mp h]
open PyProof.Rows in
theorem leD_head {x y : Int} {xs ys : List D} (h : leD (.list (.int x :: xs)) (.list (.int y :: ys)) = true) : x ≤ y := by
  have h' : (!lexLt itemOrd (Sum.inl 1 :: Sum.inl y :: PySem.W.keyToksAll ys) (Sum.inl 1 :: Sum.inl x :: PySem.W.keyToksAll xs)) = true := by
    have e := h
    unfold leD PySem.W.dataLe PySem.W.sortLe at e
    simpa [PySem.W.keyToks, PySem.W.keyToksAll] using e
  rw [lex_self, lex_cons] at h'
  have e : (itemOrd.blt (Sum.inl y) (Sum.inl x)) = decide (y < x) := rfl
  rw [e] at h'
  by_cases c : y < x
  · simp [c] at h'
  · omega
theorem leD_total : PySem.W.TotalLe leD := PySem.W.sortLe_total (PyProof.Rows.listOrd PyProof.Rows.itemOrd) false (fun b : D => PySem.W.keyToks (id b))
/-- ints in order -/
def sortI (ns : List Int) : List Int := ns.mergeSort fun a b => decide (a ≤ b)
theorem alike_int (a b : Int) : PySem.W.alike (.int a) (.int b) = true := rfl
theorem sort_ints {ns : List Int} (h : ns.length ≤ sizeLine) : sortF [.list (ns.map .int)] = some ((sortI ns).map .int) := by
  show (if sortOk (ns.map PyData.int) = true then some ((ns.map PyData.int).mergeSort leD) else none) = _
  have ok : sortOk (ns.map PyData.int) = true := by
    unfold sortOk
    simp only [Bool.and_eq_true, List.all_eq_true, List.mem_map, decide_eq_true_eq, List.length_map, Bool.or_eq_true]
    refine ⟨⟨?_, .inr ?_⟩, h⟩
    · rintro x ⟨a, _, rfl⟩
      refine ⟨shaped_int a, ?_⟩
      rintro y ⟨b, _, rfl⟩
      rfl
    · rintro x ⟨a, _, rfl⟩
      rfl
  rw [if_pos ok]
  congr 1
  unfold sortI
  rw [← map_sort PyData.int leD ns]
  congr 1
  congr 1
  funext a b
  exact leD_int a b
theorem sortI_perm (ns : List Int) : (sortI ns).Perm ns := List.mergeSort_perm ns _
theorem sortI_up (ns : List Int) : (sortI ns).Pairwise (· ≤ ·) := by
  have := List.pairwise_mergeSort (le := fun a b : Int => decide (a ≤ b)) (fun a b c h1 h2 => by simp at *; omega) (fun a b => by simp; omega) ns
  exact this.imp fun h => by simpa using h
theorem perm_up : ∀ {a b : List Int}, a.Pairwise (· ≤ ·) → b.Pairwise (· ≤ ·) → a.Perm b → a = b := fun ha hb p => p.eq_of_pairwise (fun _ _ _ _ h1 h2 => Int.le_antisymm h1 h2) ha hb
theorem sortI_two (x y : Int) : sortI [x, y] = [min x y, max x y] := by
  refine perm_up (sortI_up _) (by simp; omega) ((sortI_perm _).trans ?_)
  by_cases h : x ≤ y
  · rw [Int.min_eq_left h, Int.max_eq_right h]
  · rw [Int.min_eq_right (by omega), Int.max_eq_left (by omega)]
    exact List.Perm.swap _ _ _
/-! ### loops -/
/-- a loop whose turns keep an invariant -/
theorem for_inv {as : D → EnvD → Option EnvD} {body : EnvD → Option Out} (P : Nat → EnvD → Prop) : ∀ (ds : List D) (ρ : EnvD) (k : Nat), P k ρ →
    (∀ i d ρ, ds[i]? = some d → P (k + i) ρ → ∃ ρ1 ρ2, as d ρ = some ρ1 ∧ body ρ1 = some (.next ρ2) ∧ P (k + i + 1) ρ2) → ∃ ρ', forGo as body ds ρ = some (.next ρ') ∧ P (k + ds.length) ρ'
  | [], ρ, k, h, _ => ⟨ρ, rfl, h⟩
  | d :: ds, ρ, k, h, step => by
    obtain ⟨ρ1, ρ2, h1, h2, h3⟩ := step 0 d ρ rfl h
    obtain ⟨ρ', e, q⟩ := for_inv P ds ρ2 (k + 1) h3 fun i d ρ hd hP => by
      have := step (i + 1) d ρ hd (by rw [show k + (i + 1) = k + 1 + i by omega]; exact hP)
      rw [show k + (i + 1) + 1 = k + 1 + i + 1 by omega] at this
      exact this
    refine ⟨ρ', ?_, by rw [List.length_cons, show k + (ds.length + 1) = k + 1 + ds.length by omega]; exact q⟩
    show (as d ρ).bind _ = _
    rw [h1]
    show (body ρ1).bind _ = _
    rw [h2]
    exact e
theorem for_inv0 {as : D → EnvD → Option EnvD} {body : EnvD → Option Out} (P : Nat → EnvD → Prop) (ds : List D) (ρ : EnvD) (h : P 0 ρ)
    (step : ∀ i d ρ, ds[i]? = some d → P i ρ → ∃ ρ1 ρ2, as d ρ = some ρ1 ∧ body ρ1 = some (.next ρ2) ∧ P (i + 1) ρ2) : ∃ ρ', forGo as body ds ρ = some (.next ρ') ∧ P ds.length ρ' := by
  obtain ⟨ρ', e, q⟩ := for_inv P ds ρ 0 h fun i d ρ hd hP => by
    rw [Nat.zero_add] at hP ⊢
    exact step i d ρ hd hP
  rw [Nat.zero_add] at q
  exact ⟨ρ', e, q⟩
/-- the same, with the turn as one answer -/
theorem for_inv1 {as : D → EnvD → Option EnvD} {body : EnvD → Option Out} (P : Nat → EnvD → Prop) (ds : List D) (ρ : EnvD) (h : P 0 ρ)
    (step : ∀ i d ρ, ds[i]? = some d → P i ρ → ∃ ρ2, (as d ρ).bind body = some (.next ρ2) ∧ P (i + 1) ρ2) : ∃ ρ', forGo as body ds ρ = some (.next ρ') ∧ P ds.length ρ' :=
  for_inv0 P ds ρ h fun i d ρ hd hP => by
    obtain ⟨ρ2, e, q⟩ := step i d ρ hd hP
    obtain ⟨ρ1, e1, e2⟩ := bind1 e
    exact ⟨ρ1, ρ2, e1, e2, q⟩
theorem rng_get {lo : Int} {n i : Nat} {d : D} (h : (rngD lo n)[i]? = some d) : i < n ∧ d = .int (lo + (i : Nat)) := rngD_get h
/-- a comprehension, item by item -/
theorem comp_map {α : Type} {f : D → Option (Option D)} {g : α → D} {h : α → D} {p : α → Bool} : ∀ (xs : List α), (∀ x ∈ xs, f (g x) = some (if p x = true then some (h x) else none)) → compGo f (xs.map g) = some ((xs.filter p).map h)
  | [], _ => rfl
  | x :: xs, hf => by
    rw [List.map_cons]
    unfold compGo
    rw [hf x List.mem_cons_self, comp_map xs fun y hy => hf y (List.mem_cons_of_mem _ hy)]
    cases c : p x with
    | true => rw [if_pos rfl, List.filter_cons_of_pos c]; rfl
    | false => rw [if_neg Bool.false_ne_true, List.filter_cons_of_neg (by rw [c]; exact Bool.false_ne_true)]
theorem comp_all {α : Type} {f : D → Option (Option D)} {g : α → D} {h : α → D} : ∀ (xs : List α), (∀ x ∈ xs, f (g x) = some (some (h x))) → compGo f (xs.map g) = some (xs.map h)
  | [], _ => rfl
  | x :: xs, hf => by
    rw [List.map_cons]
    unfold compGo
    rw [hf x List.mem_cons_self, comp_all xs fun y hy => hf y (List.mem_cons_of_mem _ hy)]
    rfl
theorem rngD_map (lo : Int) (n : Nat) : rngD lo n = ((List.range n).map fun i => lo + (i : Nat)).map PyData.int := by
  unfold rngD
  rw [List.map_map]
  rfl
end Fv

set_option Elab.async false
set_option linter.all false
set_option maxRecDepth 100000
set_option autoImplicit false
/-! FvS: the equations of the evaluator, for simp; written by a script from FvD. -/
namespace Fv
open PySem L2
@[simp] theorem evE_var (i : Nat) (ρ : EnvD) : evE (.var i) ρ = (cellD ρ i) := rfl
@[simp] theorem evE_cint (i : Int) (ρ : EnvD) : evE (.cint i) ρ = (some (.int i)) := rfl
@[simp] theorem evE_cbl (b : Bool) (ρ : EnvD) : evE (.cbl b) ρ = (some (.bool b)) := rfl
@[simp] theorem evE_cnon  (ρ : EnvD) : evE (.cnon ) ρ = (some .none) := rfl
@[simp] theorem evE_cstr (s : Str) (ρ : EnvD) : evE (.cstr s) ρ = (some (.str s)) := rfl
@[simp] theorem evE_glob (x0 : Str) (d : D) (ρ : EnvD) : evE (.glob x0 d) ρ = (some d) := rfl
@[simp] theorem evE_bin (op : Bop) (a : Ex) (b : Ex) (ρ : EnvD) : evE (.bin op a b) ρ = (bind2 (evE a ρ) (evE b ρ) (bopD op)) := rfl
@[simp] theorem evE_neg (a : Ex) (ρ : EnvD) : evE (.neg a) ρ = ((evE a ρ).bind negD) := rfl
@[simp] theorem evE_not (a : Ex) (ρ : EnvD) : evE (.not a) ρ = ((evE a ρ).bind notD) := rfl
@[simp] theorem evE_and (a : Ex) (b : Ex) (ρ : EnvD) : evE (.and a b) ρ = ((evE a ρ).bind fun x => andD x (evE b ρ)) := rfl
@[simp] theorem evE_or (a : Ex) (b : Ex) (ρ : EnvD) : evE (.or a b) ρ = ((evE a ρ).bind fun x => orD x (evE b ρ)) := rfl
@[simp] theorem evE_cmp (op : Cop) (a : Ex) (b : Ex) (ρ : EnvD) : evE (.cmp op a b) ρ = (bind2 (evE a ρ) (evE b ρ) fun x y => (copD op x y).map .bool) := rfl
@[simp] theorem evE_chain (op : Cop) (op' : Cop) (a : Ex) (b : Ex) (c : Ex) (ρ : EnvD) : evE (.chain op op' a b c) ρ = (bind2 (evE a ρ) (evE b ρ) fun x y => (copD op x y).bind fun k => cond k ((evE c ρ).bind fun z => (copD op' y z).map .bool) (some (.bool false))) := rfl
@[simp] theorem evE_isN (neg : Bool) (a : Ex) (ρ : EnvD) : evE (.isN neg a) ρ = ((evE a ρ).map fun d => .bool (xor neg (isNoneD d))) := rfl
@[simp] theorem evE_isin (neg : Bool) (a : Ex) (b : Ex) (ρ : EnvD) : evE (.isin neg a b) ρ = (bind2 (evE a ρ) (evE b ρ) fun x y => (inD neg x y).map .bool) := rfl
@[simp] theorem evE_ix (a : Ex) (b : Ex) (ρ : EnvD) : evE (.ix a b) ρ = (bind2 (evE a ρ) (evE b ρ) ixD) := rfl
@[simp] theorem evE_oix (i : Nat) (b : Ex) (ρ : EnvD) : evE (.oix i b) ρ = (bind2 (cellL ρ i) (evE b ρ) oixD) := rfl
@[simp] theorem evE_slice (a : Ex) (lo : Bd) (hi : Bd) (ρ : EnvD) : evE (.slice a lo hi) ρ = (bind3 (evE a ρ) (evB lo ρ) (evB hi ρ) sliceD) := rfl
@[simp] theorem evE_rev (a : Ex) (ρ : EnvD) : evE (.rev a) ρ = (((evE a ρ).bind revF).map .list) := rfl
@[simp] theorem evE_tup (as : As) (ρ : EnvD) : evE (.tup as) ρ = ((evA as ρ).bind tupD) := rfl
@[simp] theorem evE_lst (as : As) (ρ : EnvD) : evE (.lst as) ρ = (((evA as ρ).bind lenOk).map .list) := rfl
@[simp] theorem evE_rep (as : As) (b : Ex) (ρ : EnvD) : evE (.rep as b) ρ = ((bind2 (evA as ρ) (evE b ρ) repD).map .list) := rfl
theorem evE_call (x0 : Str) (f : List D → Option D) (as : As) (ρ : EnvD) : evE (.call x0 f as) ρ = ((evA as ρ).bind f) := rfl
theorem evE_callF (x0 : Str) (f : List D → Option (List D)) (as : As) (ρ : EnvD) : evE (.callF x0 f as) ρ = (((evA as ρ).bind f).map .list) := rfl
@[simp] theorem evE_bfn (f : Bfn) (as : As) (ρ : EnvD) : evE (.bfn f as) ρ = ((evA as ρ).bind (bfnD f)) := rfl
@[simp] theorem evE_int (a : Ex) (ρ : EnvD) : evE (.int a) ρ = ((evE a ρ).bind fun d => intD [d]) := rfl
@[simp] theorem evE_list (a : Ex) (ρ : EnvD) : evE (.list a) ρ = (((evE a ρ).bind fun d => listF [d]).map .list) := rfl
@[simp] theorem evE_tuple (a : Ex) (ρ : EnvD) : evE (.tuple a) ρ = ((evE a ρ).bind fun d => tupleD [d]) := rfl
@[simp] theorem evE_sorted (a : Ex) (ρ : EnvD) : evE (.sorted a) ρ = (((evE a ρ).bind fun d => sortF [d]).map .list) := rfl
@[simp] theorem evE_lrng (r : It) (ρ : EnvD) : evE (.lrng r) ρ = (((evI r ρ).bind rngOk).map .list) := rfl
@[simp] theorem evE_is (t : Ty) (a : Ex) (ρ : EnvD) : evE (.is t a) ρ = (((evE a ρ).bind (isTyD t)).map .bool) := rfl
theorem evE_comp (vs : List Nat) (t : Tg) (it : It) (c : Cd) (e : Ex) (ρ : EnvD) : evE (.comp vs t it c e) ρ = ((((evI it ρ).bind lenOk).bind (compGo fun d => (asT t d (wipeE ρ vs)).bind fun ρ1 => (evC c ρ1).bind fun k => cond k ((evE e ρ1).map some) (some none))).map .list) := rfl
theorem evE_compK (vs : List Nat) (t : Tg) (i : Nat) (c : Cd) (e : Ex) (ρ : EnvD) : evE (.compK vs t i c e) ρ = (((((cellD ρ i).bind keysF).bind lenOk).bind (compGo fun d => (asT t d (wipeE ρ vs)).bind fun ρ1 => (evC c ρ1).bind fun k => cond k ((evE e ρ1).map some) (some none))).map .list) := rfl
@[simp] theorem evE_dget (i : Nat) (k : Ex) (d : Ex) (ρ : EnvD) : evE (.dget i k d) ρ = (bind3 ρ[i]? (evE k ρ) (evE d ρ) fun c kd dd => (lookO c kd).map fun o => o.getD dd) := rfl
@[simp] theorem evE_dix (i : Nat) (k : Ex) (ρ : EnvD) : evE (.dix i k) ρ = (bind2 ρ[i]? (evE k ρ) fun c kd => (lookO c kd).bind id) := rfl
@[simp] theorem evE_fix (a : Ex) (k : Ex) (ρ : EnvD) : evE (.fix a k) ρ = (bind2 (evE a ρ) (evE k ρ) fixD) := rfl
@[simp] theorem evE_din (neg : Bool) (i : Nat) (k : Ex) (ρ : EnvD) : evE (.din neg i k) ρ = (bind2 ρ[i]? (evE k ρ) fun c kd => (lookO c kd).map fun o => .bool (xor neg o.isSome)) := rfl
@[simp] theorem evE_repr (a : Ex) (ρ : EnvD) : evE (.repr a) ρ = ((evE a ρ).bind fun d => reprD [d]) := rfl
@[simp] theorem evE_sset (a : Ex) (ρ : EnvD) : evE (.sset a) ρ = (((evE a ρ).bind fun d => ssetF [d]).map .list) := rfl
@[simp] theorem evE_isb (neg : Bool) (b : Bool) (a : Ex) (ρ : EnvD) : evE (.isb neg b a) ρ = (((evE a ρ).bind (isbB neg b)).map .bool) := rfl
@[simp] theorem evT_and (a : Ex) (b : Ex) (ρ : EnvD) : evT (.and a b) ρ = ((evT a ρ).bind fun k => cond k (evT b ρ) (some false)) := rfl
@[simp] theorem evT_or (a : Ex) (b : Ex) (ρ : EnvD) : evT (.or a b) ρ = ((evT a ρ).bind fun k => cond k (some true) (evT b ρ)) := rfl
@[simp] theorem evT_not (a : Ex) (ρ : EnvD) : evT (.not a) ρ = ((evT a ρ).map fun b => !b) := rfl
@[simp] theorem evT_var (i : Nat) (ρ : EnvD) : evT (.var i) ρ = ((cellD ρ i).bind truthD) := rfl
@[simp] theorem evT_cmp (op : Cop) (a : Ex) (b : Ex) (ρ : EnvD) : evT (.cmp op a b) ρ = (bind2 (evE a ρ) (evE b ρ) (copD op)) := rfl
@[simp] theorem evT_chain (op : Cop) (op' : Cop) (a : Ex) (b : Ex) (c : Ex) (ρ : EnvD) : evT (.chain op op' a b c) ρ = (bind2 (evE a ρ) (evE b ρ) fun x y => (copD op x y).bind fun k => cond k ((evE c ρ).bind fun z => copD op' y z) (some false)) := rfl
@[simp] theorem evT_isN (neg : Bool) (a : Ex) (ρ : EnvD) : evT (.isN neg a) ρ = ((evE a ρ).map fun d => xor neg (isNoneD d)) := rfl
@[simp] theorem evT_isin (neg : Bool) (a : Ex) (b : Ex) (ρ : EnvD) : evT (.isin neg a b) ρ = (bind2 (evE a ρ) (evE b ρ) (inD neg)) := rfl
@[simp] theorem evT_din (neg : Bool) (i : Nat) (k : Ex) (ρ : EnvD) : evT (.din neg i k) ρ = (bind2 ρ[i]? (evE k ρ) fun c kd => (lookO c kd).map fun o => xor neg o.isSome) := rfl
theorem evT_call (x0 : Str) (f : List D → Option D) (as : As) (ρ : EnvD) : evT (.call x0 f as) ρ = (((evA as ρ).bind f).bind truthD) := rfl
@[simp] theorem evT_ix (a : Ex) (b : Ex) (ρ : EnvD) : evT (.ix a b) ρ = ((bind2 (evE a ρ) (evE b ρ) ixD).bind truthD) := rfl
@[simp] theorem evT_is (t : Ty) (a : Ex) (ρ : EnvD) : evT (.is t a) ρ = ((evE a ρ).bind (isTyD t)) := rfl
@[simp] theorem evT_isb (neg : Bool) (b : Bool) (a : Ex) (ρ : EnvD) : evT (.isb neg b a) ρ = ((evE a ρ).bind (isbB neg b)) := rfl
@[simp] theorem evA_nil  (ρ : EnvD) : evA (.nil ) ρ = (some []) := rfl
@[simp] theorem evA_cons (a : Ex) (r : As) (ρ : EnvD) : evA (.cons a r) ρ = (bind2 (evE a ρ) (evA r ρ) fun d ds => some (d :: ds)) := rfl
@[simp] theorem evI_seq (e : Ex) (ρ : EnvD) : evI (.seq e) ρ = ((evE e ρ).bind itemsD) := rfl
@[simp] theorem evI_r1 (a : Ex) (ρ : EnvD) : evI (.r1 a) ρ = ((evE a (viewE ρ)).bind r1F) := rfl
@[simp] theorem evI_r2 (a : Ex) (b : Ex) (ρ : EnvD) : evI (.r2 a b) ρ = (bind2 (evE a (viewE ρ)) (evE b (viewE ρ)) r2F) := rfl
@[simp] theorem evI_rdn (a : Ex) (ρ : EnvD) : evI (.rdn a) ρ = ((evE a (viewE ρ)).bind rdnF) := rfl
@[simp] theorem evC_yes  (ρ : EnvD) : evC (.yes ) ρ = (some true) := rfl
@[simp] theorem evC_if_ (c : Ex) (ρ : EnvD) : evC (.if_ c) ρ = (evT c (viewE ρ)) := rfl
@[simp] theorem evB_no  (ρ : EnvD) : evB (.no ) ρ = (some none) := rfl
@[simp] theorem evB_at_ (e : Ex) (ρ : EnvD) : evB (.at_ e) ρ = ((evE e ρ).bind bndD) := rfl
@[simp] theorem evF_bin (op : Bop) (a : Ex) (b : Ex) (ρ : EnvD) : evF (.bin op a b) ρ = (bind2 (evE a ρ) (evE b ρ) (bopF op)) := rfl
@[simp] theorem evF_slice (a : Ex) (lo : Bd) (hi : Bd) (ρ : EnvD) : evF (.slice a lo hi) ρ = (bind3 (evE a ρ) (evB lo ρ) (evB hi ρ) sliceF) := rfl
@[simp] theorem evF_rev (a : Ex) (ρ : EnvD) : evF (.rev a) ρ = ((evE a ρ).bind revF) := rfl
@[simp] theorem evF_lst (as : As) (ρ : EnvD) : evF (.lst as) ρ = ((evA as ρ).bind lenOk) := rfl
@[simp] theorem evF_rep (as : As) (b : Ex) (ρ : EnvD) : evF (.rep as b) ρ = (bind2 (evA as ρ) (evE b ρ) repD) := rfl
theorem evF_callF (x0 : Str) (f : List D → Option (List D)) (as : As) (ρ : EnvD) : evF (.callF x0 f as) ρ = ((evA as ρ).bind f) := rfl
@[simp] theorem evF_list (a : Ex) (ρ : EnvD) : evF (.list a) ρ = ((evE a ρ).bind fun d => listF [d]) := rfl
@[simp] theorem evF_sorted (a : Ex) (ρ : EnvD) : evF (.sorted a) ρ = ((evE a ρ).bind fun d => sortF [d]) := rfl
@[simp] theorem evF_sset (a : Ex) (ρ : EnvD) : evF (.sset a) ρ = ((evE a ρ).bind fun d => ssetF [d]) := rfl
@[simp] theorem evF_lrng (r : It) (ρ : EnvD) : evF (.lrng r) ρ = ((evI r ρ).bind rngOk) := rfl
theorem evF_comp (vs : List Nat) (t : Tg) (it : It) (c : Cd) (e : Ex) (ρ : EnvD) : evF (.comp vs t it c e) ρ = (((evI it ρ).bind lenOk).bind (compGo fun d => (asT t d (wipeE ρ vs)).bind fun ρ1 => (evC c ρ1).bind fun k => cond k ((evE e ρ1).map some) (some none))) := rfl
theorem evF_compK (vs : List Nat) (t : Tg) (i : Nat) (c : Cd) (e : Ex) (ρ : EnvD) : evF (.compK vs t i c e) ρ = ((((cellD ρ i).bind keysF).bind lenOk).bind (compGo fun d => (asT t d (wipeE ρ vs)).bind fun ρ1 => (evC c ρ1).bind fun k => cond k ((evE e ρ1).map some) (some none))) := rfl
@[simp] theorem evS_asg (i : Nat) (e : Ex) (ρ : EnvD) : evS (.asg i e) ρ = (nx ((evE e ρ).map fun d => ρ.set i (.fz d))) := rfl
@[simp] theorem evS_asgV (i : Nat) (e : Ex) (ρ : EnvD) : evS (.asgV i e) ρ = (nx (((evE e (viewE ρ)).bind flatD).map fun d => ρ.set i (.fz d))) := rfl
@[simp] theorem evS_asgF (i : Nat) (e : Ex) (ρ : EnvD) : evS (.asgF i e) ρ = (nx ((evF e ρ).map fun ds => ρ.set i (.ol ds))) := rfl
@[simp] theorem evS_newK (i : Nat) (ρ : EnvD) : evS (.newK i) ρ = (nx (some (ρ.set i (.ok [])))) := rfl
@[simp] theorem evS_newT (i : Nat) (ρ : EnvD) : evS (.newT i) ρ = (nx (some (ρ.set i (.ot [])))) := rfl
@[simp] theorem evS_asgT (is : List Nat) (e : Ex) (ρ : EnvD) : evS (.asgT is e) ρ = (nx ((evE e ρ).bind fun d => asT (.tup is) d ρ)) := rfl
@[simp] theorem evS_asgTV (is : List Nat) (e : Ex) (ρ : EnvD) : evS (.asgTV is e) ρ = (nx (((evE e (viewE ρ)).bind itemsD).bind fun ds => (flatsD ds).bind fun ds => setAll is ds ρ)) := rfl
@[simp] theorem evS_par (is : List Nat) (as : As) (ρ : EnvD) : evS (.par is as) ρ = (nx ((evA as ρ).bind fun ds => setAll is ds ρ)) := rfl
@[simp] theorem evS_parV (is : List Nat) (as : As) (ρ : EnvD) : evS (.parV is as) ρ = (nx (((evA as (viewE ρ)).bind flatsD).bind fun ds => setAll is ds ρ)) := rfl
@[simp] theorem evS_setI (i : Nat) (k : Ex) (e : Ex) (ρ : EnvD) : evS (.setI i k e) ρ = (nx ((bind3 (cellL ρ i) (evE k (viewE ρ)) (evE e ρ) setL).map fun ys => ρ.set i (.ol ys))) := rfl
@[simp] theorem evS_setIV (i : Nat) (k : Ex) (e : Ex) (ρ : EnvD) : evS (.setIV i k e) ρ = (nx ((bind3 (cellL ρ i) (evE k (viewE ρ)) ((evE e (viewE ρ)).bind flatD) setL).map fun ys => ρ.set i (.ol ys))) := rfl
@[simp] theorem evS_swap (i : Nat) (a : Ex) (b : Ex) (c : Ex) (d : Ex) (ρ : EnvD) : evS (.swap i a b c d) ρ = (nx (bind2 ((evE c (viewE ρ)).bind flatD) ((evE d (viewE ρ)).bind flatD) fun x y => (bind3 (cellL ρ i) (evE a (viewE ρ)) (some x) setL).bind fun ys => (bind3 (some ys) (evE b (viewE (ρ.set i (.ol ys)))) (some y) setL).map fun zs => (ρ.set i (.ol ys)).set i (.ol zs))) := rfl
@[simp] theorem evS_put (i : Nat) (k : Ex) (e : Ex) (ρ : EnvD) : evS (.put i k e) ρ = (nx ((bind3 ρ[i]? (evE k ρ) (evE e ρ) putO).map fun c => ρ.set i c)) := rfl
@[simp] theorem evS_putV (i : Nat) (k : Ex) (e : Ex) (ρ : EnvD) : evS (.putV i k e) ρ = (nx ((bind3 ρ[i]? (evE k ρ) ((evE e (viewE ρ)).bind flatD) putO).map fun c => ρ.set i c)) := rfl
@[simp] theorem evS_app (i : Nat) (e : Ex) (ρ : EnvD) : evS (.app i e) ρ = (nx ((bind2 (cellL ρ i) (evE e ρ) appL).map fun ys => ρ.set i (.ol ys))) := rfl
@[simp] theorem evS_appV (i : Nat) (e : Ex) (ρ : EnvD) : evS (.appV i e) ρ = (nx ((bind2 (cellL ρ i) ((evE e (viewE ρ)).bind flatD) appL).map fun ys => ρ.set i (.ol ys))) := rfl
@[simp] theorem evS_insV (i : Nat) (k : Ex) (e : Ex) (ρ : EnvD) : evS (.insV i k e) ρ = (nx ((bind3 (cellL ρ i) (evE k (viewE ρ)) ((evE e (viewE ρ)).bind flatD) insL).map fun ys => ρ.set i (.ol ys))) := rfl
@[simp] theorem evS_ext (x0 : Nat) (x1 : Ex) (ρ : EnvD) : evS (.ext x0 x1) ρ = (none) := rfl
@[simp] theorem evS_pop (t : Tg) (i : Nat) (ρ : EnvD) : evS (.pop t i) ρ = (nx (((cellL ρ i).bind popL).bind fun p => asT t p.1 (ρ.set i (.ol p.2)))) := rfl
@[simp] theorem evS_popA (t : Tg) (i : Nat) (k : Ex) (ρ : EnvD) : evS (.popA t i k) ρ = (nx ((bind2 (cellL ρ i) (evE k (viewE ρ)) popAt).bind fun p => asT t p.1 (ρ.set i (.ol p.2)))) := rfl
@[simp] theorem evS_frz (i : Nat) (ρ : EnvD) : evS (.frz i) ρ = (nx ((ρ[i]?.bind frzC).map fun c => ρ.set i c)) := rfl
@[simp] theorem evS_ret (e : Ex) (ρ : EnvD) : evS (.ret e) ρ = ((evE e ρ).map .ret) := rfl
@[simp] theorem evS_retV (e : Ex) (ρ : EnvD) : evS (.retV e) ρ = (((evE e (viewE ρ)).bind flatD).map .ret) := rfl
@[simp] theorem evS_retF (e : Ex) (ρ : EnvD) : evS (.retF e) ρ = ((evF e ρ).map .retF) := rfl
@[simp] theorem evS_retO (i : Nat) (ρ : EnvD) : evS (.retO i) ρ = ((cellL ρ i).map .retF) := rfl
@[simp] theorem evS_ite (c : Ex) (a : Ss) (b : Ss) (ρ : EnvD) : evS (.ite c a b) ρ = ((evT c (viewE ρ)).bind fun k => cond k (evSs a ρ) (evSs b ρ)) := rfl
@[simp] theorem evS_for_ (t : Tg) (it : It) (b : Ss) (ρ : EnvD) : evS (.for_ t it b) ρ = ((evI it ρ).bind fun ds => forGo (asT t) (evSs b) ds ρ) := rfl
@[simp] theorem evS_forK (t : Tg) (i : Nat) (b : Ss) (ρ : EnvD) : evS (.forK t i b) ρ = (((cellD ρ i).bind keysF).bind fun ds => forGo (asT t) (evSs b) ds ρ) := rfl
@[simp] theorem evS_while_ (fuel : Nat) (c : Ex) (b : Ss) (ρ : EnvD) : evS (.while_ fuel c b) ρ = (whileGo (fun ρ => evT c (viewE ρ)) (evSs b) fuel ρ) := rfl
@[simp] theorem evSs_nil  (ρ : EnvD) : evSs (.nil ) ρ = (some (.next ρ)) := rfl
def seqO (o : Option Out) (f : EnvD → Option Out) : Option Out := o.bind fun o => match o with
  | .next ρ1 => f ρ1
  | o => some o
@[simp] theorem evSs_cons (s : Sm) (r : Ss) (ρ : EnvD) : evSs (.cons s r) ρ = seqO (evS s ρ) (evSs r) := rfl
@[simp] theorem seqO_next (ρ : EnvD) (f : EnvD → Option Out) : seqO (some (.next ρ)) f = f ρ := rfl
@[simp] theorem seqO_ret (d : D) (f : EnvD → Option Out) : seqO (some (.ret d)) f = some (.ret d) := rfl
@[simp] theorem seqO_retF (d : List D) (f : EnvD → Option Out) : seqO (some (.retF d)) f = some (.retF d) := rfl
@[simp] theorem cellD_zero (d : D) (ρ : EnvD) : cellD (.fz d :: ρ) 0 = some d := rfl
@[simp] theorem cellD_succ (c : Cell) (ρ : EnvD) (n : Nat) : cellD (c :: ρ) (n + 1) = cellD ρ n := rfl
@[simp] theorem cellL_zero (d : List D) (ρ : EnvD) : cellL (.ol d :: ρ) 0 = some d := rfl
@[simp] theorem cellL_succ (c : Cell) (ρ : EnvD) (n : Nat) : cellL (c :: ρ) (n + 1) = cellL ρ n := rfl
@[simp] theorem viewE_nil : viewE [] = [] := rfl
@[simp] theorem viewE_cons (c : Cell) (ρ : EnvD) : viewE (c :: ρ) = c.view :: viewE ρ := rfl
@[simp] theorem view_fz (d : D) : (Cell.fz d).view = .fz d := rfl
@[simp] theorem view_un : Cell.un.view = .un := rfl
@[simp] theorem view_ol (d : List D) : (Cell.ol d).view = .fz (.list d) := rfl
@[simp] theorem view_ok (d : List (Key × D)) : (Cell.ok d).view = .fz (dictK d) := rfl
@[simp] theorem bind2_some {α β γ : Type} (a : α) (b : β) (f : α → β → Option γ) : bind2 (some a) (some b) f = f a b := rfl
@[simp] theorem bind3_some {α β γ δ : Type} (a : α) (b : β) (c : γ) (f : α → β → γ → Option δ) : bind3 (some a) (some b) (some c) f = f a b c := rfl
@[simp] theorem nx_some (ρ : EnvD) : nx (some ρ) = some (.next ρ) := rfl
@[simp] theorem asT_nm (i : Nat) (d : D) (ρ : EnvD) : asT (.nm i) d ρ = some (ρ.set i (.fz d)) := rfl
@[simp] theorem asT_tup (is : List Nat) (ds : List D) (ρ : EnvD) : asT (.tup is) (.tuple ds) ρ = setAll is ds ρ := rfl
@[simp] theorem asT_lst (is : List Nat) (ds : List D) (ρ : EnvD) : asT (.tup is) (.list ds) ρ = setAll is ds ρ := rfl
@[simp] theorem setAll_nil (ρ : EnvD) : setAll [] [] ρ = some ρ := rfl
@[simp] theorem setAll_cons (i : Nat) (is : List Nat) (d : D) (ds : List D) (ρ : EnvD) : setAll (i :: is) (d :: ds) ρ = setAll is ds (ρ.set i (.fz d)) := rfl
@[simp] theorem wipeE_nil (ρ : EnvD) : wipeE ρ [] = ρ := rfl
@[simp] theorem wipeE_cons (ρ : EnvD) (v : Nat) (vs : List Nat) : wipeE ρ (v :: vs) = (wipeE ρ vs).set v .un := rfl
@[simp] theorem bopD_int (op : Bop) (i j : Int) : bopD op (.int i) (.int j) = (bopI op i j).map .int := by cases op <;> rfl
@[simp] theorem bopI_add (i j : Int) : bopI .add i j = some (i + j) := rfl
@[simp] theorem bopI_sub (i j : Int) : bopI .sub i j = some (i - j) := rfl
@[simp] theorem cop_int' (op : Cop) (a b : Int) : copD op (.int a) (.int b) = some (copI op a b) := cop_int op a b
@[simp] theorem copI_eq (a b : Int) : copI .eq a b = decide (a = b) := rfl
@[simp] theorem copI_ne (a b : Int) : copI .ne a b = !decide (a = b) := rfl
@[simp] theorem copI_lt (a b : Int) : copI .lt a b = decide (a < b) := rfl
@[simp] theorem copI_le (a b : Int) : copI .le a b = decide (a ≤ b) := rfl
@[simp] theorem copI_gt (a b : Int) : copI .gt a b = decide (b < a) := rfl
@[simp] theorem copI_ge (a b : Int) : copI .ge a b = decide (b ≤ a) := rfl
@[simp] theorem flatD_int (i : Int) : flatD (.int i) = some (.int i) := rfl
@[simp] theorem flatD_bool (i : Bool) : flatD (.bool i) = some (.bool i) := rfl
@[simp] theorem bfn_len (xs : List D) : bfnD .len [.list xs] = some (.int xs.length) := rfl
@[simp] theorem bfn_lenT (xs : List D) : bfnD .len [.tuple xs] = some (.int xs.length) := rfl
@[simp] theorem bfn_abs (i : Int) : bfnD .abs [.int i] = some (.int i.natAbs) := rfl
@[simp] theorem itemsD_list (xs : List D) : itemsD (.list xs) = some xs := rfl
@[simp] theorem itemsD_tuple (xs : List D) : itemsD (.tuple xs) = some xs := rfl
@[simp] theorem ixD_list (xs : List D) (i : Int) : ixD (.list xs) (.int i) = atI xs i := rfl
@[simp] theorem ixD_tuple (xs : List D) (i : Int) : ixD (.tuple xs) (.int i) = atI xs i := rfl
@[simp] theorem oixD_int (xs : List D) (i : Int) : oixD xs (.int i) = atI xs i := rfl
@[simp] theorem bndD_int (i : Int) : bndD (.int i) = some (some i) := rfl
@[simp] theorem sliceD_list (xs : List D) (lo hi : Option Int) : sliceD (.list xs) lo hi = some (.list (cutD xs lo hi)) := rfl
@[simp] theorem sliceF_list (xs : List D) (lo hi : Option Int) : sliceF (.list xs) lo hi = some (cutD xs lo hi) := rfl
theorem mul_ok {i j : Int} (h1 : i.natAbs < 2 ^ 1000) (h2 : j.natAbs < 2 ^ 1000) : bopI .mul i j = some (i * j) := by
  have lg : ∀ n : Nat, n < 2 ^ 1000 → n.log2 < 1000 := fun n h => by
    by_cases z : n = 0
    · subst z; decide
    · exact (Nat.log2_lt z).mpr h
  show (if i.natAbs.log2 + j.natAbs.log2 < 1000000 then some (i * j) else none) = _
  have := lg _ h1
  have := lg _ h2
  rw [if_pos (by omega)]
@[simp] theorem mod_ok {i j : Int} (h : 0 < j) : bopI .mod i j = some (i % j) := if_pos h
theorem fdiv_ok {i j : Int} (h : 0 < j) (h2 : j.natAbs < 2 ^ 1000) : bopI .fdiv i j = some (i / j) := by
  show (if 0 < j ∧ j.natAbs.log2 < 9000 then some (i / j) else none) = _
  rw [if_pos]
  refine ⟨h, ?_⟩
  have := (Nat.log2_lt (n := j.natAbs) (k := 1000) (by omega)).mpr h2
  omega
@[simp] theorem app_ok {xs : List D} {d : D} (h : xs.length < sizeLine) : appL xs d = some (xs ++ [d]) := if_pos h
/-- what a comprehension does with an item -/
def cF (vs : List Nat) (t : Tg) (c : Cd) (e : Ex) (ρ : EnvD) : D → Option (Option D) := fun d => (asT t d (wipeE ρ vs)).bind fun ρ1 => (evC c ρ1).bind fun k => cond k ((evE e ρ1).map some) (some none)
theorem evF_all {α : Type} {vs : List Nat} {t : Tg} {it : It} {e : Ex} {ρ : EnvD} (xs : List α) {g h : α → D} (hi : evI it ρ = some (xs.map g)) (hl : xs.length ≤ sizeLine) (hx : ∀ x ∈ xs, cF vs t .yes e ρ (g x) = some (some (h x))) :
    evF (.comp vs t it .yes e) ρ = some (xs.map h) ∧ evE (.comp vs t it .yes e) ρ = some (.list (xs.map h)) := by
  have key : ((evI it ρ).bind lenOk).bind (compGo (cF vs t .yes e ρ)) = some (xs.map h) := by
    rw [hi]
    show (lenOk (xs.map g)).bind _ = _
    rw [show lenOk (xs.map g) = some (xs.map g) from if_pos (by rw [List.length_map]; exact hl)]
    exact comp_all xs hx
  exact ⟨key, by show (((evI it ρ).bind lenOk).bind (compGo (cF vs t .yes e ρ))).map PyData.list = _; rw [key]; rfl⟩
theorem evF_some {α : Type} {vs : List Nat} {t : Tg} {it : It} {c e : Ex} {ρ : EnvD} (xs : List α) {g h : α → D} (p : α → Bool) (hi : evI it ρ = some (xs.map g)) (hl : xs.length ≤ sizeLine) (hx : ∀ x ∈ xs, cF vs t (.if_ c) e ρ (g x) = some (if p x = true then some (h x) else none)) :
    evF (.comp vs t it (.if_ c) e) ρ = some ((xs.filter p).map h) ∧ evE (.comp vs t it (.if_ c) e) ρ = some (.list ((xs.filter p).map h)) := by
  have key : ((evI it ρ).bind lenOk).bind (compGo (cF vs t (.if_ c) e ρ)) = some ((xs.filter p).map h) := by
    rw [hi]
    show (lenOk (xs.map g)).bind _ = _
    rw [show lenOk (xs.map g) = some (xs.map g) from if_pos (by rw [List.length_map]; exact hl)]
    exact comp_map xs hx
  exact ⟨key, by show (((evI it ρ).bind lenOk).bind (compGo (cF vs t (.if_ c) e ρ))).map PyData.list = _; rw [key]; rfl⟩
theorem take_snoc {α : Type} {l : List α} {i : Nat} {x : α} (h : l[i]? = some x) : l.take (i + 1) = l.take i ++ [x] := by
  rw [List.take_succ, h]
  rfl
theorem small_lt {n : Nat} (h : n < 1000000) : n < sizeLine := by unfold sizeLine; omega
theorem small_le {n : Nat} (h : n < 1000000) : n ≤ sizeLine := by unfold sizeLine; omega
@[simp] theorem bfn_min (i j : Int) : bfnD .min [.int i, .int j] = some (.int (min i j)) := rfl
@[simp] theorem bfn_max (i j : Int) : bfnD .max [.int i, .int j] = some (.int (max i j)) := rfl
theorem r1_ok {n : Int} (h0 : -(2 ^ 62) ≤ n) (h1 : n < 2 ^ 62) : r1F (.int n) = some (rngD 0 n.toNat) := if_pos ⟨h0, h1⟩
theorem r1_nat {n : Nat} (hn : n < 1000000) : r1F (.int (n : Int)) = some (((List.range n).map fun i => ((i : Nat) : Int)).map .int) := by
  rw [r1_ok (n := (n : Int)) (by omega) (by omega), Int.toNat_natCast, rngD_map]
  simp only [Int.zero_add]
theorem lrng_ok {ρ : EnvD} {a : Ex} {n : Nat} (h : evE a (viewE ρ) = some (.int (n : Int))) (hn : n < 1000000) : evE (.lrng (.r1 a)) ρ = some (.list (((List.range n).map fun i => ((i : Nat) : Int)).map .int)) ∧ evF (.lrng (.r1 a)) ρ = some (((List.range n).map fun i => ((i : Nat) : Int)).map .int) := by
  have e : (evI (.r1 a) ρ).bind rngOk = some (((List.range n).map fun i => ((i : Nat) : Int)).map .int) := by
    rw [evI_r1, h, Option.bind_some, r1_nat hn, Option.bind_some]
    unfold rngOk
    rw [if_pos]
    rw [List.length_map, List.length_map, List.length_range]
    omega
  exact ⟨by rw [evE_lrng, e]; rfl, by rw [evF_lrng, e]⟩
theorem r1_it {ρ : EnvD} {a : Ex} {n : Nat} (h : evE a (viewE ρ) = some (.int (n : Int))) (hn : n < 1000000) : evI (.r1 a) ρ = some (((List.range n).map fun i => ((i : Nat) : Int)).map .int) := by
  rw [evI_r1, h, Option.bind_some, r1_nat hn]
theorem runF_1 {n : Nat} {b : Ss} {x0 : D} : runF 1 n b [x0] = (evSs b (start0 n [x0])).bind outF := if_pos rfl
theorem runD_1 {n : Nat} {b : Ss} {x0 : D} : runD 1 n b [x0] = (evSs b (start0 n [x0])).bind outD := if_pos rfl
theorem runF_2 {n : Nat} {b : Ss} {x0 x1 : D} : runF 2 n b [x0, x1] = (evSs b (start0 n [x0, x1])).bind outF := if_pos rfl
theorem runD_2 {n : Nat} {b : Ss} {x0 x1 : D} : runD 2 n b [x0, x1] = (evSs b (start0 n [x0, x1])).bind outD := if_pos rfl
theorem runF_3 {n : Nat} {b : Ss} {x0 x1 x2 : D} : runF 3 n b [x0, x1, x2] = (evSs b (start0 n [x0, x1, x2])).bind outF := if_pos rfl
theorem runD_3 {n : Nat} {b : Ss} {x0 x1 x2 : D} : runD 3 n b [x0, x1, x2] = (evSs b (start0 n [x0, x1, x2])).bind outD := if_pos rfl
theorem runF_4 {n : Nat} {b : Ss} {x0 x1 x2 x3 : D} : runF 4 n b [x0, x1, x2, x3] = (evSs b (start0 n [x0, x1, x2, x3])).bind outF := if_pos rfl
theorem runD_4 {n : Nat} {b : Ss} {x0 x1 x2 x3 : D} : runD 4 n b [x0, x1, x2, x3] = (evSs b (start0 n [x0, x1, x2, x3])).bind outD := if_pos rfl
theorem runF_5 {n : Nat} {b : Ss} {x0 x1 x2 x3 x4 : D} : runF 5 n b [x0, x1, x2, x3, x4] = (evSs b (start0 n [x0, x1, x2, x3, x4])).bind outF := if_pos rfl
theorem runD_5 {n : Nat} {b : Ss} {x0 x1 x2 x3 x4 : D} : runD 5 n b [x0, x1, x2, x3, x4] = (evSs b (start0 n [x0, x1, x2, x3, x4])).bind outD := if_pos rfl
theorem runF_6 {n : Nat} {b : Ss} {x0 x1 x2 x3 x4 x5 : D} : runF 6 n b [x0, x1, x2, x3, x4, x5] = (evSs b (start0 n [x0, x1, x2, x3, x4, x5])).bind outF := if_pos rfl
theorem runD_6 {n : Nat} {b : Ss} {x0 x1 x2 x3 x4 x5 : D} : runD 6 n b [x0, x1, x2, x3, x4, x5] = (evSs b (start0 n [x0, x1, x2, x3, x4, x5])).bind outD := if_pos rfl
/-- a call, by what its parts tell -/
theorem callF_is {x : Str} {f : List D → Option (List D)} {as : As} {ρ : EnvD} {vs r : List D} (ha : evA as ρ = some vs) (hf : f vs = some r) : evE (.callF x f as) ρ = some (.list r) ∧ evF (.callF x f as) ρ = some r := by
  have e : (evA as ρ).bind f = some r := by rw [ha]; exact hf
  exact ⟨by rw [evE_callF, e]; rfl, by rw [evF_callF, e]⟩
theorem call_is {x : Str} {f : List D → Option D} {as : As} {ρ : EnvD} {vs : List D} {r : D} (ha : evA as ρ = some vs) (hf : f vs = some r) : evE (.call x f as) ρ = some r := by
  rw [evE_call, ha]
  exact hf
theorem callT_is {x : Str} {f : List D → Option D} {as : As} {ρ : EnvD} {vs : List D} {b : Bool} (ha : evA as ρ = some vs) (hf : f vs = some (.bool b)) : evT (.call x f as) ρ = some b := by
  have e : (evA as ρ).bind f = some (.bool b) := by rw [ha]; exact hf
  rw [evT_call, e]
  rfl
end Fv

set_option Elab.async false
set_option linter.all false
set_option maxRecDepth 100000
set_option autoImplicit false
set_option maxHeartbeats 1600000
/-! FvT: what the laws share: the draws, a cell of them. -/
namespace Fv
open PySem L2
def bCell : Ss := (.cons (.ite (.cmp .lt (.var 1) (.bfn .len (.cons (.var 0) .nil))) (.cons (.ret (.ix (.var 0) (.var 1))) .nil) .nil) (.cons (.ret (.bin .mod (.bin .add (.bin .add (.bin .mul (.ix (.var 0) (.bin .mod (.var 1) (.bfn .len (.cons (.var 0) .nil)))) (.cint 31)) (.bin .mul (.ix (.var 0) (.bin .mod (.bin .mul (.cint 7) (.var 1)) (.bfn .len (.cons (.var 0) .nil)))) (.cint 17))) (.bin .mul (.cint 101) (.var 1))) (.cint 1000003))) .nil))
def fCell : List D → Option D := runD 2 2 bCell
def lBig : Ss := .cons (.ite (.cmp .gt (.var 4) (.cint 0)) (.cons (.app 2 (.bin .mod (.var 4) (.cint 1000003))) (.cons (.asg 4 (.bin .fdiv (.var 4) (.cint 1000003))) .nil)) .nil) .nil
def sBig : Sm := .for_ (.nm 5) (.r1 (.cint 60)) lBig
def lSm : Ss := .cons (.asg 6 (.bin .mod (.bin .add (.bin .add (.bin .add (.bin .mul (.var 6) (.cint 69621)) (.bin .fdiv (.var 6) (.cint 65536))) (.bin .mul (.cint 13) (.var 5))) (.cint 5)) (.cint 2147483629))) (.cons (.app 2 (.bin .mod (.bin .fdiv (.var 6) (.cint 8)) (.cint 1000003))) .nil)
def sSm : Sm := .for_ (.nm 5) (.r1 (.cint 4)) lSm
def lCell : Ss := .cons (.asg 4 (.bfn .abs (.cons (.int (.var 3)) .nil))) (.cons (.ite (.cmp .ge (.var 4) (.bin .pow (.cint 10) (.cint 18))) (.cons sBig .nil) (.cons (.asgV 6 (.bin .mod (.bin .add (.bin .add (.bin .mul (.var 4) (.cint 48271)) (.bin .mul (.cint 7) (.bfn .len (.cons (.var 2) .nil)))) (.cint 11)) (.cint 2147483647))) (.cons sSm .nil))) .nil)
def lFill : Ss := .cons (.ite (.cmp .lt (.bfn .len (.cons (.var 2) .nil)) (.var 1)) (.cons (.asg 7 (.cint 0)) (.cons (.ite (.cmp .gt (.bfn .len (.cons (.var 2) .nil)) (.cint 0)) (.cons (.asgV 7 (.ix (.var 2) (.bin .mod (.var 5) (.bfn .len (.cons (.var 2) .nil))))) .nil) .nil) (.cons (.appV 2 (.bin .mod (.bin .add (.bin .add (.bin .mul (.var 7) (.cint 16807)) (.bin .mul (.cint 31) (.bfn .len (.cons (.var 2) .nil)))) (.cint 17)) (.cint 1000003))) .nil))) .nil) .nil
def bDraws : Ss := .cons (.asgF 2 (.lst .nil)) (.cons (.for_ (.nm 3) (.seq (.slice (.var 0) .no (.at_ (.cint 63)))) lCell) (.cons (.for_ (.nm 5) (.r1 (.var 1)) lFill) (.cons (.frz 2) (.cons (.retF (.slice (.var 2) .no (.at_ (.var 1)))) .nil))))
def fDraws : List D → Option (List D) := runF 2 8 bDraws
/-- the draws: some numbers below 1000003 -/
structure Draws (ds : List Int) : Prop where
  ne : ds ≠ []
  len : ds.length ≤ 1000
  lo : ∀ d ∈ ds, 0 ≤ d ∧ d < 1000003
theorem Draws.get {ds : List Int} (h : Draws ds) {i : Int} (h0 : 0 ≤ i) (h1 : i < ds.length) : ∃ v, atI (ds.map PyData.int) i = some (.int v) ∧ 0 ≤ v ∧ v < 1000003 := by
  have lt : i.toNat < ds.length := by omega
  refine ⟨ds[i.toNat], at_nat h0 ?_, h.lo _ (List.getElem_mem lt)⟩
  rw [List.getElem?_map, List.getElem?_eq_getElem lt]
  rfl
theorem small_lit {n : Nat} (h : n < 2 ^ 200) : n < 2 ^ 1000 := Nat.lt_of_lt_of_le h (Nat.pow_le_pow_right (by decide) (by decide))
theorem mul_sm {i j : Int} (h1 : i.natAbs < 2 ^ 200) (h2 : j.natAbs < 2 ^ 200) : bopI .mul i j = some (i * j) := mul_ok (small_lit h1) (small_lit h2)
theorem fdiv_sm {i j : Int} (h : 0 < j) (h2 : j.natAbs < 2 ^ 200) : bopI .fdiv i j = some (i / j) := fdiv_ok h (small_lit h2)
theorem cell_ok {ds : List Int} (h : Draws ds) {k : Int} (h0 : 0 ≤ k) (hk : k < 1000003) : ∃ v, fCell [intsD' ds, .int k] = some (.int v) ∧ 0 ≤ v ∧ v < 1000003 := by
  have hl : (0 : Int) < ds.length := by
    have := h.ne
    cases ds with
    | nil => exact absurd rfl this
    | cons a b => simp
  have hlen := h.len
  unfold fCell runD bCell intsD'
  by_cases c : k < ds.length
  · obtain ⟨v, e, hv⟩ := h.get h0 c
    refine ⟨v, ?_, hv⟩
    simp [start0, c, e, outD]
  · obtain ⟨a, ea, ha, ha'⟩ := h.get (Int.emod_nonneg k (by omega)) (Int.emod_lt_of_pos k hl)
    obtain ⟨b, eb, hb, hb'⟩ := h.get (Int.emod_nonneg (7 * k) (by omega)) (Int.emod_lt_of_pos (7 * k) hl)
    refine ⟨(a * 31 + b * 17 + 101 * k) % 1000003, ?_, Int.emod_nonneg _ (by decide), Int.emod_lt_of_pos _ (by decide)⟩
    have m1 : bopI .mul 7 k = some (7 * k) := mul_sm (by decide) (by omega)
    have m2 : bopI .mul a 31 = some (a * 31) := mul_sm (by omega) (by decide)
    have m3 : bopI .mul b 17 = some (b * 17) := mul_sm (by omega) (by decide)
    have m4 : bopI .mul 101 k = some (101 * k) := mul_sm (by decide) (by omega)
    have m5 : bopI .mod k ds.length = some (k % ds.length) := mod_ok hl
    have m6 : bopI .mod (7 * k) ds.length = some (7 * k % ds.length) := mod_ok hl
    simp [start0, c, ea, eb, outD, m1, m2, m3, m4, m5, m6]
theorem len_map_int (ds : List Int) : (ds.map PyData.int).length = ds.length := List.length_map _
/-- all numbers of the list are draws -/
def Nums (ds : List Int) : Prop := ∀ d ∈ ds, 0 ≤ d ∧ d < 1000003
theorem Nums.app {ds : List Int} {d : Int} (h : Nums ds) (h0 : 0 ≤ d) (h1 : d < 1000003) : Nums (ds ++ [d]) := fun x hx => by
  rcases List.mem_append.mp hx with z | z
  · exact h x z
  · rw [List.mem_singleton.mp z]
    exact ⟨h0, h1⟩
theorem apps (ds : List Int) (v : Int) : ds.map PyData.int ++ [PyData.int v] = (ds ++ [v]).map PyData.int := by simp
theorem big_loop {s m c3 k mx bs : Cell} {ds : List Int} {n : Int} (hn : 0 ≤ n) (h : Nums ds) (hl : ds.length ≤ 4000) : ∃ (ds' : List Int) (n' : Int) (k' : Cell),
    evS sBig [s, m, .ol (ds.map .int), c3, .fz (.int n), k, mx, bs] = some (.next [s, m, .ol (ds'.map .int), c3, .fz (.int n'), k', mx, bs]) ∧ Nums ds' ∧ ds'.length ≤ ds.length + 60 := by
  obtain ⟨ρ', e, ds', n', k', rfl, h1, h2, h3⟩ := for_inv1 (as := asT (.nm 5)) (body := evSs lBig) (fun i ρ => ∃ (ds' : List Int) (n' : Int) (k' : Cell), ρ = [s, m, .ol (ds'.map .int), c3, .fz (.int n'), k', mx, bs] ∧ 0 ≤ n' ∧ Nums ds' ∧ ds'.length ≤ ds.length + i)
    (rngD 0 60) _ ⟨ds, n, k, rfl, hn, h, by omega⟩ (by
      rintro i d ρ hd ⟨ds1, n1, k1, rfl, a, b, c⟩
      obtain ⟨hi, rfl⟩ := rng_get hd
      have e1 : bopI .fdiv n1 1000003 = some (n1 / 1000003) := fdiv_sm (by decide) (by decide)
      have e2 : (ds1.map PyData.int).length < sizeLine := by rw [len_map_int]; unfold sizeLine; omega
      by_cases z : 0 < n1
      · exact ⟨[s, m, .ol ((ds1 ++ [n1 % 1000003]).map .int), c3, .fz (.int (n1 / 1000003)), .fz (.int (0 + (i : Nat))), mx, bs], by simp [lBig, z, e1, app_ok e2], _, _, _, rfl, Int.ediv_nonneg a (by decide), b.app (Int.emod_nonneg _ (by decide)) (Int.emod_lt_of_pos _ (by decide)), by rw [List.length_append, List.length_singleton]; omega⟩
      · exact ⟨[s, m, .ol (ds1.map .int), c3, .fz (.int n1), .fz (.int (0 + (i : Nat))), mx, bs], by simp [lBig, z], _, _, _, rfl, a, b, by omega⟩)
  refine ⟨ds', n', k', ?_, h2, ?_⟩
  · unfold sBig
    rw [evS_for_, evI_r1]
    simp only [evE_cint, Option.bind_some, r1_ok (n := 60) (by decide) (by decide)]
    exact e
  · rw [rngD_len] at h3
    exact h3
theorem sm_loop {s m c3 n k bs : Cell} {ds : List Int} {x : Int} (h0 : 0 ≤ x) (h1 : x < 2147483647) (h : Nums ds) (hl : ds.length ≤ 4000) : ∃ (ds' : List Int) (k' x' : Cell),
    evS sSm [s, m, .ol (ds.map .int), c3, n, k, .fz (.int x), bs] = some (.next [s, m, .ol (ds'.map .int), c3, n, k', x', bs]) ∧ Nums ds' ∧ ds'.length ≤ ds.length + 4 := by
  obtain ⟨ρ', e, ds', k', x', rfl, h1, h2, h3, h4⟩ := for_inv1 (as := asT (.nm 5)) (body := evSs lSm) (fun i ρ => ∃ (ds' : List Int) (k' : Cell) (x' : Int), ρ = [s, m, .ol (ds'.map .int), c3, n, k', .fz (.int x'), bs] ∧ 0 ≤ x' ∧ x' < 2147483647 ∧ Nums ds' ∧ ds'.length ≤ ds.length + i)
    (rngD 0 4) _ ⟨ds, k, x, rfl, h0, h1, h, by omega⟩ (by
      rintro i d ρ hd ⟨ds1, k1, x1, rfl, a, a', b, c⟩
      obtain ⟨hi, rfl⟩ := rng_get hd
      have e1 : bopI .mul x1 69621 = some (x1 * 69621) := mul_sm (by omega) (by decide)
      have e2 : bopI .mul 13 (0 + (i : Nat)) = some (13 * (0 + (i : Nat))) := mul_sm (by decide) (by omega)
      have e3 : bopI .fdiv x1 65536 = some (x1 / 65536) := fdiv_sm (by decide) (by decide)
      have e4 : ∀ y : Int, bopI .fdiv y 8 = some (y / 8) := fun y => fdiv_sm (by decide) (by decide)
      have e5 : (ds1.map PyData.int).length < sizeLine := by rw [len_map_int]; unfold sizeLine; omega
      have e6 : (x1 * 69621 + x1 / 65536 + 13 * (0 + (i : Nat)) + 5) % 2147483629 < 2147483647 := Int.lt_trans (Int.emod_lt_of_pos _ (by decide)) (by decide)
      rw [Int.zero_add] at e2 e6 ⊢
      exact ⟨[s, m, .ol ((ds1 ++ [(x1 * 69621 + x1 / 65536 + 13 * (i : Nat) + 5) % 2147483629 / 8 % 1000003]).map .int), c3, n, .fz (.int (i : Nat)), .fz (.int ((x1 * 69621 + x1 / 65536 + 13 * (i : Nat) + 5) % 2147483629)), bs],
        by simp [lSm, e1, e2, e3, e4, app_ok e5], _, _, _, rfl, Int.emod_nonneg _ (by decide), e6, b.app (Int.emod_nonneg _ (by decide)) (Int.emod_lt_of_pos _ (by decide)), by rw [List.length_append, List.length_singleton]; omega⟩)
  refine ⟨ds', k', .fz (.int x'), ?_, h3, ?_⟩
  · unfold sSm
    rw [evS_for_, evI_r1]
    simp only [evE_cint, Option.bind_some, r1_ok (n := 4) (by decide) (by decide)]
    exact e
  · rw [rngD_len] at h4
    exact h4
theorem pow_18 : bopI .pow 10 18 = some 1000000000000000000 := by decide +kernel
theorem cell_turn {s m c4 k mx bs : Cell} {ds : List Int} {n : Int} (h : Nums ds) (hl : ds.length ≤ 3940) : ∃ (ds' : List Int) (c4' k' mx' : Cell),
    evSs lCell [s, m, .ol (ds.map .int), .fz (.int n), c4, k, mx, bs] = some (.next [s, m, .ol (ds'.map .int), .fz (.int n), c4', k', mx', bs]) ∧ Nums ds' ∧ ds'.length ≤ ds.length + 60 := by
  have i1 : intD [.int n] = some (.int n) := rfl
  by_cases z : (1000000000000000000 : Int) ≤ n.natAbs
  · obtain ⟨ds', n', k', e, a, b⟩ := big_loop (s := s) (m := m) (c3 := .fz (.int n)) (k := k) (mx := mx) (bs := bs) (n := n.natAbs) (by omega) h (by omega)
    refine ⟨ds', .fz (.int n'), k', mx, ?_, a, b⟩
    simp only [lCell, evSs_cons, evS_asg, evE_bfn, evA_cons, evE_int, evE_var, evA_nil, cellD_zero, cellD_succ, Option.bind_some, i1, bind2_some, bfn_abs, Option.map_some, nx_some, seqO_next, List.set_cons_succ, List.set_cons_zero, evS_ite, viewE_cons, view_fz, evT_cmp, evE_bin,
      evE_cint, bopD_int, pow_18, cop_int', copI_ge, z, decide_true, cond_true, e, evSs_nil]
  · have e1 : bopI .mul (n.natAbs : Int) 48271 = some ((n.natAbs : Int) * 48271) := mul_sm (by omega) (by decide)
    have e2 : bopI .mul 7 (ds.length : Int) = some (7 * (ds.length : Int)) := mul_sm (by decide) (by omega)
    obtain ⟨ds', k', x', e, a, b⟩ := sm_loop (s := s) (m := m) (c3 := .fz (.int n)) (n := .fz (.int n.natAbs)) (k := k) (bs := bs) (x := ((n.natAbs : Int) * 48271 + 7 * (ds.length : Int) + 11) % 2147483647) (Int.emod_nonneg _ (by decide)) (Int.emod_lt_of_pos _ (by decide)) h (by omega)
    refine ⟨ds', .fz (.int n.natAbs), k', x', ?_, a, by omega⟩
    simp [lCell, i1, pow_18, z, e1, e2, e]
/-- the first loop -/
def sCells : Sm := .for_ (.nm 3) (.seq (.slice (.var 0) .no (.at_ (.cint 63)))) lCell
theorem cut_script {ns : List Int} (h : ns.length ≤ 63) : cutD (ns.map PyData.int) none (some 63) = ns.map PyData.int := by
  unfold cutD
  rw [HT.sIx_none, show HT.sIx (ns.map PyData.int).length (ns.map PyData.int).length (some 63) = min 63 (ns.map PyData.int).length from HT.sIx_nat _ _ 63, List.length_map, Nat.min_eq_right h, List.drop_zero, Nat.sub_zero]
  exact List.take_of_length_le (by simp)
theorem cells_loop {ns : List Int} (hn : ns.length ≤ 63) {m a b c d e : Cell} : ∃ (ds : List Int) (a' b' c' d' : Cell), evS sCells [.fz (scriptD ns), m, .ol [], a, b, c, d, e] = some (.next [.fz (scriptD ns), m, .ol (ds.map .int), a', b', c', d', e]) ∧ ds.length ≤ 3940 ∧ Nums ds := by
  obtain ⟨ρ', q, ds, a', b', c', d', rfl, h1, h2⟩ := for_inv1 (as := asT (.nm 3)) (body := evSs lCell) (fun i ρ => ∃ (ds : List Int) (a' b' c' d' : Cell), ρ = [.fz (scriptD ns), m, .ol (ds.map .int), a', b', c', d', e] ∧ ds.length ≤ 60 * i ∧ Nums ds)
    (ns.map .int) [.fz (scriptD ns), m, .ol [], a, b, c, d, e] ⟨[], a, b, c, d, rfl, by simp, fun d hd => by cases hd⟩ (by
      rintro i x ρ hd ⟨ds1, a1, b1, c1, d1, rfl, hl, nums⟩
      rw [List.getElem?_map] at hd
      obtain ⟨n, hn', rfl⟩ := map_some' hd
      have hi : i < ns.length := (List.getElem?_eq_some_iff.mp hn').1
      obtain ⟨ds2, c4, k2, mx2, e1, nums2, hl2⟩ := cell_turn (s := .fz (scriptD ns)) (m := m) (c4 := b1) (k := c1) (mx := d1) (bs := e) (n := n) nums (by omega)
      exact ⟨_, by simp; exact e1, ds2, _, c4, k2, mx2, rfl, by omega, nums2⟩)
  refine ⟨ds, a', b', c', d', ?_, by rw [List.length_map] at h1; omega, h2⟩
  unfold sCells
  simp [scriptD, cut_script hn]
  exact q
theorem fill_turn {s bs : Cell} {c3 c4 mx : Cell} {ds : List Int} {many : Int} {i : Nat} (h : Nums ds) (hl : ds.length ≤ 10000) (hm : many < 1000) : ∃ (ds' : List Int) (bs' : Cell),
    evSs lFill [s, .fz (.int many), .ol (ds.map .int), c3, c4, .fz (.int (i : Nat)), mx, bs] = some (.next [s, .fz (.int many), .ol (ds'.map .int), c3, c4, .fz (.int (i : Nat)), mx, bs']) ∧ Nums ds' ∧
      ((ds.length : Int) < many → ds'.length = ds.length + 1) ∧ (¬ (ds.length : Int) < many → ds' = ds) := by
  by_cases z : (ds.length : Int) < many
  · have e0 : bopI .mul 31 (ds.length : Int) = some (31 * (ds.length : Int)) := mul_sm (by decide) (by omega)
    have e5 : (ds.map PyData.int).length < sizeLine := by rw [len_map_int]; unfold sizeLine; omega
    by_cases y : 0 < ds.length
    · obtain ⟨v, ev, hv, hv'⟩ : ∃ v, atI (ds.map PyData.int) ((i : Int) % ds.length) = some (.int v) ∧ 0 ≤ v ∧ v < 1000003 := by
        have lt : ((i : Int) % ds.length).toNat < ds.length := by
          have := Int.emod_lt_of_pos (i : Int) (b := ds.length) (by omega)
          have := Int.emod_nonneg (i : Int) (b := ds.length) (by omega)
          omega
        refine ⟨ds[((i : Int) % ds.length).toNat], at_nat (Int.emod_nonneg _ (by omega)) ?_, h _ (List.getElem_mem lt)⟩
        rw [List.getElem?_map, List.getElem?_eq_getElem lt]
        rfl
      have e1 : bopI .mod (i : Int) ds.length = some ((i : Int) % ds.length) := mod_ok (by omega)
      have e2 : bopI .mul v 16807 = some (v * 16807) := mul_sm (by omega) (by decide)
      refine ⟨ds ++ [(v * 16807 + 31 * (ds.length : Int) + 17) % 1000003], .fz (.int v), ?_, h.app (Int.emod_nonneg _ (by decide)) (Int.emod_lt_of_pos _ (by decide)), fun _ => by simp, fun c => absurd z c⟩
      simp [lFill, z, y, e0, e1, e2, ev, app_ok e5]
    · have e2 : bopI .mul 0 16807 = some (0 * 16807) := mul_sm (by decide) (by decide)
      refine ⟨ds ++ [(0 * 16807 + 31 * (ds.length : Int) + 17) % 1000003], .fz (.int 0), ?_, h.app (Int.emod_nonneg _ (by decide)) (Int.emod_lt_of_pos _ (by decide)), fun _ => by simp, fun c => absurd z c⟩
      simp [lFill, z, y, e0, e2, app_ok e5]
  · exact ⟨ds, bs, by simp [lFill, z], h, fun c => absurd c z, fun _ => rfl⟩
def sFill : Sm := .for_ (.nm 5) (.r1 (.var 1)) lFill
theorem fill_loop {ns : List Int} {many : Nat} (h2 : many < 1000) {ds : List Int} {a b c d e : Cell} (hl : ds.length ≤ 3940) (nums : Nums ds) : ∃ (ds2 : List Int) (k2 x2 : Cell), evS sFill [.fz (scriptD ns), .fz (.int many), .ol (ds.map .int), a, b, c, d, e] = some (.next [.fz (scriptD ns), .fz (.int many), .ol (ds2.map .int), a, b, k2, d, x2]) ∧ many ≤ ds2.length ∧ Nums ds2 := by
  obtain ⟨ρ', e2, ds2, k2, x2, rfl, hl2, hl3, nums2⟩ := for_inv1 (as := asT (.nm 5)) (body := evSs lFill) (fun i ρ => ∃ (ds2 : List Int) (k2 x2 : Cell), ρ = [.fz (scriptD ns), .fz (.int many), .ol (ds2.map .int), a, b, k2, d, x2] ∧ ds2.length ≤ 5000 ∧ min i many ≤ ds2.length ∧ Nums ds2)
    (rngD 0 many) [.fz (scriptD ns), .fz (.int many), .ol (ds.map .int), a, b, c, d, e] ⟨ds, c, e, rfl, by omega, by omega, nums⟩ (by
      rintro i x ρ hd ⟨ds1, k1, x1, rfl, l1, l2, n1⟩
      obtain ⟨hi, rfl⟩ := rng_get hd
      obtain ⟨ds3, x3, e3, n3, g1, g2⟩ := fill_turn (s := .fz (scriptD ns)) (c3 := a) (c4 := b) (mx := d) (bs := x1) (many := many) (i := i) n1 (by omega) (by omega)
      refine ⟨_, by rw [Int.zero_add]; exact e3, ds3, _, x3, rfl, ?_, ?_, n3⟩
      · by_cases z : (ds1.length : Int) < many
        · have := g1 z; omega
        · rw [g2 z]; exact l1
      · by_cases z : (ds1.length : Int) < many
        · have := g1 z; omega
        · rw [g2 z]; omega)
  rw [rngD_len] at hl3
  refine ⟨ds2, k2, x2, ?_, by omega, nums2⟩
  unfold sFill
  rw [evS_for_, evI_r1]
  show ((some (PyData.int (many : Int))).bind r1F).bind _ = _
  rw [Option.bind_some, r1_ok (n := (many : Int)) (by omega) (by omega)]
  exact e2
theorem cut_take {ds : List Int} {many : Nat} (h : many ≤ ds.length) : cutD (ds.map PyData.int) none (some (many : Int)) = (ds.take many).map PyData.int := by
  unfold cutD
  rw [HT.sIx_none, HT.sIx_nat, List.length_map, List.drop_zero, Nat.sub_zero, Nat.min_eq_left h, List.map_take]
theorem bDraws_eq : bDraws = .cons (.asgF 2 (.lst .nil)) (.cons sCells (.cons sFill (.cons (.frz 2) (.cons (.retF (.slice (.var 2) .no (.at_ (.var 1)))) .nil)))) := rfl
theorem draws_ok {ns : List Int} (hn : ns.length ≤ 63) {many : Nat} (h2 : many < 1000) : ∃ ds, fDraws [scriptD ns, .int many] = some (ds.map .int) ∧ ds.length = many ∧ Nums ds := by
  obtain ⟨ds, a, b, c, d, e1, hl, nums⟩ := cells_loop hn (m := .fz (.int many)) (a := .un) (b := .un) (c := .un) (d := .un) (e := .un)
  obtain ⟨ds2, k2, x2, e3, hl4, nums2⟩ := fill_loop (ns := ns) h2 (a := a) (b := b) (c := c) (d := d) (e := .un) hl nums
  refine ⟨ds2.take many, ?_, by rw [List.length_take]; omega, fun d hd => nums2 d (List.mem_of_mem_take hd)⟩
  have f0 : evF (.lst .nil) (start0 8 [scriptD ns, .int many]) = some [] := rfl
  unfold fDraws runF
  rw [if_pos (by rfl), bDraws_eq, evSs_cons, evS_asgF, f0, Option.map_some, nx_some, seqO_next, evSs_cons]
  have st : (start0 8 [scriptD ns, .int many]).set 2 (.ol []) = [.fz (scriptD ns), .fz (.int many), .ol [], .un, .un, .un, .un, .un] := rfl
  rw [st, e1, seqO_next, evSs_cons, e3, seqO_next, evSs_cons]
  have fr : evS (.frz 2) [.fz (scriptD ns), .fz (.int many), .ol (ds2.map .int), a, b, k2, d, x2] = some (.next [.fz (scriptD ns), .fz (.int many), .fz (.list (ds2.map .int)), a, b, k2, d, x2]) := rfl
  rw [fr, seqO_next, evSs_cons]
  have rt : evS (.retF (.slice (.var 2) .no (.at_ (.var 1)))) [.fz (scriptD ns), .fz (.int many), .fz (.list (ds2.map .int)), a, b, k2, d, x2] = some (.retF (cutD (ds2.map PyData.int) none (some (many : Int)))) := rfl
  rw [rt, seqO_retF, cut_take hl4]
  rfl
end Fv

set_option Elab.async false
set_option linter.all false
set_option maxRecDepth 100000
set_option autoImplicit false
/-! FvU: the text of data without texts. -/
namespace Fv
open PySem L2
def okS (x : Str) : Prop := ∀ c ∈ x.cps.toList, c < 0x110000
theorem okS_app {a b : Str} (ha : okS a) (hb : okS b) : okS (a ++ b) := fun c hc => by
  have e : (a ++ b).cps.toList = a.cps.toList ++ b.cps.toList := by
    show (a.cps ++ b.cps).toList = _
    rw [Array.toList_append]
  rw [e] at hc
  rcases List.mem_append.mp hc with z | z
  · exact ha c z
  · exact hb c z
theorem okS_string (s : String) : okS (Str.ofString s) := fun c hc => by
  rw [Str.ofString_eq_toList] at hc
  obtain ⟨ch, _, rfl⟩ := List.mem_map.mp (show c ∈ s.toList.map Char.toNat by simpa using hc)
  rcases ch.valid with h | ⟨_, h⟩
  · have : ch.toNat < 0xd800 := h
    omega
  · exact h
theorem okS_strOk {x : Str} (h : okS x) : PyData.strOk x = true := by
  unfold PyData.strOk
  rw [Array.all_eq_true_iff_forall_mem]
  intro c hc
  exact decide_eq_true (h c (by simpa using hc))
theorem okS_from : ∀ (ts : List Str) (k : Nat) (acc : Str), okS acc → (∀ t ∈ ts, okS t) → okS (textFrom k acc ts)
  | [], _, _, h, _ => h
  | t :: ts, k, acc, h, ht => okS_from ts (k + 1) _ (okS_app (okS_app h (okS_string _)) (ht t List.mem_cons_self)) fun u hu => ht u (List.mem_cons_of_mem _ hu)
theorem okS_join {sep : Str} (hs : okS sep) : ∀ ts : List Str, (∀ t ∈ ts, okS t) → okS (Str.join sep ts)
  | [], _ => by intro c hc; cases hc
  | [x], h => h x List.mem_cons_self
  | x :: y :: r, h => by
    show okS (x ++ sep ++ Str.join sep (y :: r))
    exact okS_app (okS_app (h x List.mem_cons_self) hs) (okS_join hs (y :: r) fun u hu => h u (List.mem_cons_of_mem _ hu))
mutual
def noStr : D → Bool
  | .none => true
  | .bool _ => true
  | .int _ => true
  | .str _ => false
  | .list xs => noStrs xs
  | .tuple xs => noStrs xs
  | .dict _ => false
def noStrs : List D → Bool
  | [] => true
  | x :: xs => noStr x && noStrs xs
end
mutual
theorem shown_okS : ∀ d : D, noStr d = true → okS d.shown
  | .none, _ => by rw [PyData.shown_none]; exact okS_string _
  | .bool b, _ => by rw [PyData.shown_bool]; cases b <;> exact okS_string _
  | .int i, _ => by rw [PyData.shown_int]; exact okS_string _
  | .str x, h => by cases h
  | .list xs, h => by
    rw [PyData.shown_list]
    exact okS_app (okS_app (okS_string _) (okS_join (okS_string _) _ (shownAll_okS xs h))) (okS_string _)
  | .tuple xs, h => by
    rw [PyData.shown_tuple]
    exact okS_app (okS_app (okS_string _) (okS_join (okS_string _) _ (shownAll_okS xs h))) (okS_string _)
  | .dict _, h => by cases h
theorem shownAll_okS : ∀ xs : List D, noStrs xs = true → ∀ t ∈ PyData.shownAll xs, okS t
  | [], _, t, ht => by rw [PyData.shownAll_nil] at ht; cases ht
  | x :: xs, h, t, ht => by
    have h' : noStr x = true ∧ noStrs xs = true := by simpa [noStrs] using h
    rw [PyData.shownAll_cons] at ht
    rcases List.mem_cons.mp ht with e | e
    · subst e; exact shown_okS x h'.1
    · exact shownAll_okS xs h'.2 t e
end
theorem shaped_str {x : Str} (h : okS x) : SeqAt.shaped (.str x) = true := by
  simp only [SeqAt.shaped, PyData.canLay0, okS_strOk h, PyData.depth, Bool.true_and]
  exact decide_eq_true (by omega)
theorem eqv_str (x : Str) : PyData.eqv (.str x) (.str x) = true := by
  simp [PyData.eqv]
/-- a text that is not itself -/
theorem ne_self {x : Str} (h : okS x) : copD .ne (.str x) (.str x) = some false := by
  show (if (SeqAt.shaped (.str x) && SeqAt.shaped (.str x)) = true then some (!PyData.eqv (.str x) (.str x)) else none) = _
  rw [shaped_str h, eqv_str]
  rfl
theorem weight_small {i : Int} (h : i.natAbs < 1000) : PyData.weight (.int i) ≤ 10 := by
  unfold PyData.weight
  split
  · omega
  · rename_i hz
    have hz' : i.natAbs ≠ 0 := by
      intro z
      have : i = 0 := by omega
      subst this
      exact hz rfl
    have := (Nat.log2_lt hz' (k := 10)).mpr (by omega)
    omega
/-- small ties: all that repr asks -/
theorem pairs_weight : ∀ {ts : List (Int × Int)}, (∀ t ∈ ts, t.1.natAbs < 1000 ∧ t.2.natAbs < 1000) → PyData.weightAll (ts.map pairD) ≤ 23 * ts.length ∧ PyData.intsShortAll 13 (ts.map pairD) = true ∧ PyData.showableAll (ts.map pairD) = true ∧ noStrs (ts.map pairD) = true
  | [], _ => by simp [PyData.weightAll, PyData.intsShortAll, PyData.showableAll, noStrs]
  | t :: ts, h => by
    obtain ⟨h1, h2⟩ := h t List.mem_cons_self
    obtain ⟨i1, i2, i3, i4⟩ := pairs_weight fun u hu => h u (List.mem_cons_of_mem _ hu)
    have w1 := weight_small h1
    have w2 := weight_small h2
    have sh : ∀ {i : Int}, i.natAbs < 1000 → decide (i.natAbs.log2 < 1920) = true := fun {i} hi => by
      refine decide_eq_true ?_
      by_cases z : i.natAbs = 0
      · rw [z]; decide
      · have := (Nat.log2_lt z (k := 10)).mpr (by omega)
        omega
    have sl : ∀ {i : Int}, i.natAbs < 1000 → decide ((PyData.shown (.int i)).length ≤ 13) = true := fun {i} hi => decide_eq_true (PyData.shown_int_le (by omega))
    rw [List.map_cons]
    refine ⟨?_, ?_, ?_, ?_⟩
    · have e : PyData.weightAll (pairD t :: ts.map pairD) = PyData.weight (.int t.1) + 1 + (PyData.weight (.int t.2) + 1 + 0) + 1 + PyData.weightAll (ts.map pairD) := by
        simp only [PyData.weightAll, PyData.weight]
      rw [e, List.length_cons]
      omega
    · simp only [PyData.intsShortAll, PyData.intsShort, sl h1, sl h2, i2, Bool.and_self, Bool.and_true]
    · simp only [PyData.showableAll, PyData.showable, sh h1, sh h2, i3, Bool.and_self, Bool.and_true]
    · simp only [noStrs, noStr, i4, Bool.and_self]
theorem repr_pairs {ts : List (Int × Int)} (hl : ts.length < 1000) (h : ∀ t ∈ ts, t.1.natAbs < 1000 ∧ t.2.natAbs < 1000) : reprD [.list (ts.map pairD)] = some (.str (PyData.list (ts.map pairD)).shown) ∧ okS (PyData.list (ts.map pairD)).shown := by
  obtain ⟨w, sh, sw, ns⟩ := pairs_weight h
  have can : (PyData.list (ts.map pairD)).canLay0 = true := by simp only [PyData.canLay0, canAll_pairs]
  have dp := depthAll_pairs ts
  have lay : (PyData.list (ts.map pairD)).layable0 = true := by
    show (PyData.canLay0 _ && decide (PyData.depth _ ≤ 64) && decide (PyData.weight _ ≤ 2 ^ 20)) = true
    rw [can, Bool.true_and, Bool.and_eq_true]
    refine ⟨decide_eq_true ?_, decide_eq_true ?_⟩
    · simp only [PyData.depth]; omega
    · have e : (2 : Nat) ^ 20 = 1048576 := by decide
      simp only [PyData.weight]
      omega
  have fits := PyData.shown_fits_of_layable0 (B := 13) (by decide) (by decide) lay (by simp only [PyData.intsShort, sh])
  refine ⟨?_, shown_okS _ (by simp only [noStr, ns])⟩
  show (if _ then some (PyData.str (PyData.list (ts.map pairD)).shown) else none) = _
  rw [if_pos]
  exact ⟨by simp only [PyData.showable, sw], can, by simp only [PyData.depth]; omega, fits, rfl⟩
end Fv

set_option Elab.async false
set_option linter.all false
set_option maxRecDepth 100000
set_option autoImplicit false
set_option maxHeartbeats 4000000
/-! K90: the text of the defs as terms; written by gen.py -/
namespace K90
open PySem L2 Fv
def topS (i : Nat) : Stmt := PySem.Challenge.pw_freelots_k90_twisted_nets.main.body.getD i (.Pass ⟨0, 0, 0, 0⟩)
abbrev s__law_draws : Stmt := topS 8
def N__law_draws : List Str := ["script", "many", "found", "cell", "number", "k", "mixed", "base"]
def p__law_draws : List Str := ["script", "many"]
def L__law_draws_0 : Ss := (.cons (.ite (.cmp .gt (.var 4) (.cint 0)) (.cons (.app 2 (.bin .mod (.var 4) (.cint 1000003))) (.cons (.asg 4 (.bin .fdiv (.var 4) (.cint 1000003))) .nil)) .nil) .nil)
def S__law_draws_0 : Sm := .for_ (.nm 5) (.r1 (.cint 60)) L__law_draws_0
def L__law_draws_1 : Ss := (.cons (.asg 6 (.bin .mod (.bin .add (.bin .add (.bin .add (.bin .mul (.var 6) (.cint 69621)) (.bin .fdiv (.var 6) (.cint 65536))) (.bin .mul (.cint 13) (.var 5))) (.cint 5)) (.cint 2147483629))) (.cons (.app 2 (.bin .mod (.bin .fdiv (.var 6) (.cint 8)) (.cint 1000003))) .nil))
def S__law_draws_1 : Sm := .for_ (.nm 5) (.r1 (.cint 4)) L__law_draws_1
def L__law_draws_2 : Ss := (.cons (.asg 4 (.bfn .abs (.cons (.int (.var 3)) .nil))) (.cons (.ite (.cmp .ge (.var 4) (.bin .pow (.cint 10) (.cint 18))) (.cons (S__law_draws_0) .nil) (.cons (.asgV 6 (.bin .mod (.bin .add (.bin .add (.bin .mul (.var 4) (.cint 48271)) (.bin .mul (.cint 7) (.bfn .len (.cons (.var 2) .nil)))) (.cint 11)) (.cint 2147483647))) (.cons (S__law_draws_1) .nil))) .nil))
def S__law_draws_2 : Sm := .for_ (.nm 3) (.seq (.slice (.var 0) .no (.at_ (.cint 63)))) L__law_draws_2
def L__law_draws_3 : Ss := (.cons (.ite (.cmp .lt (.bfn .len (.cons (.var 2) .nil)) (.var 1)) (.cons (.asg 7 (.cint 0)) (.cons (.ite (.cmp .gt (.bfn .len (.cons (.var 2) .nil)) (.cint 0)) (.cons (.asgV 7 (.ix (.var 2) (.bin .mod (.var 5) (.bfn .len (.cons (.var 2) .nil))))) .nil) .nil) (.cons (.appV 2 (.bin .mod (.bin .add (.bin .add (.bin .mul (.var 7) (.cint 16807)) (.bin .mul (.cint 31) (.bfn .len (.cons (.var 2) .nil)))) (.cint 17)) (.cint 1000003))) .nil))) .nil) .nil)
def S__law_draws_3 : Sm := .for_ (.nm 5) (.r1 (.var 1)) L__law_draws_3
def b__law_draws : Ss := (.cons (.asgF 2 (.lst .nil)) (.cons (S__law_draws_2) (.cons (S__law_draws_3) (.cons (.frz 2) (.cons (.retF (.slice (.var 2) .no (.at_ (.var 1)))) .nil)))))
def f__law_draws : List D → Option (List D) := runF 2 8 b__law_draws
abbrev s__law_pieces_without : Stmt := topS 11
def N__law_pieces_without : List Str := ["size", "ties", "first", "second", "names", "one", "other", "low", "high", "name", "others", "place"]
def p__law_pieces_without : List Str := ["size", "ties", "first", "second"]
def L__law_pieces_without_0 : Ss := (.cons (.ite (.and (.cmp .ne (.var 5) (.var 2)) (.and (.cmp .ne (.var 5) (.var 3)) (.and (.cmp .ne (.var 6) (.var 2)) (.cmp .ne (.var 6) (.var 3))))) (.cons (.asgT [7, 8] (.sorted (.lst (.cons (.ix (.var 4) (.var 5)) (.cons (.ix (.var 4) (.var 6)) .nil))))) (.cons (.asg 4 (.comp [9] (.nm 9) (.seq (.var 4)) .yes (.ix (.lst (.cons (.var 9) (.cons (.var 7) .nil))) (.int (.cmp .eq (.var 9) (.var 8)))))) .nil)) .nil) .nil)
def S__law_pieces_without_0 : Sm := .for_ (.tup [5, 6]) (.seq (.var 1)) L__law_pieces_without_0
def b__law_pieces_without : Ss := (.cons (.asg 4 (.lrng (.r1 (.var 0)))) (.cons (S__law_pieces_without_0) (.cons (.asg 10 (.comp [11] (.nm 11) (.r1 (.var 0)) (.if_ (.and (.cmp .ne (.var 11) (.var 2)) (.cmp .ne (.var 11) (.var 3)))) (.var 11))) (.cons (.retF (.comp [9] (.nm 9) (.seq (.sset (.comp [11] (.nm 11) (.seq (.var 10)) .yes (.ix (.var 4) (.var 11))))) .yes (.comp [11] (.nm 11) (.seq (.var 10)) (.if_ (.cmp .eq (.ix (.var 4) (.var 11)) (.var 9))) (.var 11)))) .nil))))
def f__law_pieces_without : List D → Option (List D) := runF 4 12 b__law_pieces_without
abbrev s__law_cell : Stmt := topS 9
def N__law_cell : List Str := ["draws", "k"]
def p__law_cell : List Str := ["draws", "k"]
def b__law_cell : Ss := (.cons (.ite (.cmp .lt (.var 1) (.bfn .len (.cons (.var 0) .nil))) (.cons (.ret (.ix (.var 0) (.var 1))) .nil) .nil) (.cons (.ret (.bin .mod (.bin .add (.bin .add (.bin .mul (.ix (.var 0) (.bin .mod (.var 1) (.bfn .len (.cons (.var 0) .nil)))) (.cint 31)) (.bin .mul (.ix (.var 0) (.bin .mod (.bin .mul (.cint 7) (.var 1)) (.bfn .len (.cons (.var 0) .nil)))) (.cint 17))) (.bin .mul (.cint 101) (.var 1))) (.cint 1000003))) .nil))
def f__law_cell : List D → Option D := runD 2 2 b__law_cell
abbrev s__law_renamed : Stmt := topS 15
def N__law_renamed : List Str := ["draws", "at", "size", "names", "place"]
def p__law_renamed : List Str := ["draws", "at", "size"]
def L__law_renamed_0 : Ss := (.cons (.insV 3 (.bin .mod (.bin .fdiv (.call "_law_cell" f__law_cell (.cons (.var 0) (.cons (.bin .add (.var 1) (.var 4)) .nil))) (.cint 3)) (.bin .add (.var 4) (.cint 1))) (.var 4)) .nil)
def S__law_renamed_0 : Sm := .for_ (.nm 4) (.r1 (.var 2)) L__law_renamed_0
def b__law_renamed : Ss := (.cons (.asgF 3 (.lst .nil)) (.cons (S__law_renamed_0) (.cons (.retO 3) .nil)))
def f__law_renamed : List D → Option (List D) := runF 3 5 b__law_renamed
abbrev s__law_ties : Stmt := topS 10
def N__law_ties : List Str := ["draws", "at", "size", "many", "unlike", "found", "k", "cell", "first", "second"]
def p__law_ties : List Str := ["draws", "at", "size", "many", "unlike"]
def L__law_ties_0 : Ss := (.cons (.asg 7 (.bin .add (.call "_law_cell" f__law_cell (.cons (.var 0) (.cons (.bin .add (.var 1) (.var 6)) .nil))) (.bin .mul (.cint 13) (.var 6)))) (.cons (.par [8, 9] (.cons (.bin .mod (.var 7) (.var 2)) (.cons (.bin .mod (.bin .fdiv (.bin .fdiv (.var 7) (.var 2)) (.cint 3)) (.var 2)) .nil))) (.cons (.ite (.and (.var 4) (.cmp .eq (.var 8) (.var 9))) (.cons (.asg 9 (.bin .mod (.bin .add (.var 9) (.cint 1)) (.var 2))) .nil) .nil) (.cons (.app 5 (.tup (.cons (.var 8) (.cons (.var 9) .nil)))) .nil))))
def S__law_ties_0 : Sm := .for_ (.nm 6) (.r1 (.var 3)) L__law_ties_0
def b__law_ties : Ss := (.cons (.asgF 5 (.lst .nil)) (.cons (S__law_ties_0) (.cons (.retO 5) .nil)))
def f__law_ties : List D → Option (List D) := runF 5 10 b__law_ties
abbrev s__law_twist : Stmt := topS 12
def N__law_twist : List Str := ["size", "ties", "first", "second", "piece", "swap", "found", "one", "other"]
def p__law_twist : List Str := ["size", "ties", "first", "second"]
def L__law_twist_0 : Ss := (.cons (.ite (.or (.isin false (.var 7) (.var 4)) (.isin false (.var 8) (.var 4))) (.cons (.app 6 (.tup (.cons (.oix 5 (.var 7)) (.cons (.oix 5 (.var 8)) .nil)))) .nil) (.cons (.app 6 (.tup (.cons (.var 7) (.cons (.var 8) .nil)))) .nil)) .nil)
def S__law_twist_0 : Sm := .for_ (.tup [7, 8]) (.seq (.var 1)) L__law_twist_0
def b__law_twist : Ss := (.cons (.asg 4 (.ix (.callF "_law_pieces_without" f__law_pieces_without (.cons (.var 0) (.cons (.var 1) (.cons (.var 2) (.cons (.var 3) .nil))))) (.cint 0))) (.cons (.asgF 5 (.lrng (.r1 (.var 0)))) (.cons (.swap 5 (.var 2) (.var 3) (.var 3) (.var 2)) (.cons (.asgF 6 (.lst .nil)) (.cons (S__law_twist_0) (.cons (.retO 6) .nil))))))
def f__law_twist : List D → Option (List D) := runF 4 9 b__law_twist
abbrev s_other_end : Stmt := topS 5
def N_other_end : List Str := ["place", "first", "second"]
def p_other_end : List Str := ["place", "first", "second"]
def b_other_end : Ss := (.cons (.ite (.cmp .eq (.var 0) (.var 1)) (.cons (.ret (.var 2)) .nil) .nil) (.cons (.ite (.cmp .eq (.var 0) (.var 2)) (.cons (.ret (.var 1)) .nil) .nil) (.cons (.ret (.var 0)) .nil)))
def f_other_end : List D → Option D := runD 3 3 b_other_end
abbrev s_renamed : Stmt := topS 1
def N_renamed : List Str := ["names", "first", "second", "low", "high", "found", "name"]
def p_renamed : List Str := ["names", "first", "second"]
def L_renamed_0 : Ss := (.cons (.ite (.cmp .eq (.var 6) (.var 4)) (.cons (.app 5 (.var 3)) .nil) (.cons (.app 5 (.var 6)) .nil)) .nil)
def S_renamed_0 : Sm := .for_ (.nm 6) (.seq (.var 0)) L_renamed_0
def b_renamed : Ss := (.cons (.par [3, 4] (.cons (.bfn .min (.cons (.var 1) (.cons (.var 2) .nil))) (.cons (.bfn .max (.cons (.var 1) (.cons (.var 2) .nil))) .nil))) (.cons (.asgF 5 (.lst .nil)) (.cons (S_renamed_0) (.cons (.retO 5) .nil))))
def f_renamed : List D → Option (List D) := runF 3 7 b_renamed
abbrev s_joined_lists : Stmt := topS 2
def N_joined_lists : List Str := ["size", "ties", "names", "first", "second", "lists", "place", "name"]
def p_joined_lists : List Str := ["size", "ties"]
def L_joined_lists_0 : Ss := (.cons (.asg 2 (.callF "renamed" f_renamed (.cons (.var 2) (.cons (.ix (.var 2) (.var 3)) (.cons (.ix (.var 2) (.var 4)) .nil))))) .nil)
def S_joined_lists_0 : Sm := .for_ (.tup [3, 4]) (.seq (.var 1)) L_joined_lists_0
def L_joined_lists_1 : Ss := (.cons (.put 5 (.ix (.var 2) (.var 6)) (.bin .add (.dget 5 (.ix (.var 2) (.var 6)) (.lst .nil)) (.lst (.cons (.var 6) .nil)))) .nil)
def S_joined_lists_1 : Sm := .for_ (.nm 6) (.r1 (.var 0)) L_joined_lists_1
def b_joined_lists : Ss := (.cons (.asg 2 (.lrng (.r1 (.var 0)))) (.cons (S_joined_lists_0) (.cons (.newK 5) (.cons (S_joined_lists_1) (.cons (.frz 5) (.cons (.retF (.sorted (.compK [7] (.nm 7) 5 .yes (.fix (.var 5) (.var 7))))) .nil))))))
def f_joined_lists : List D → Option (List D) := runF 2 8 b_joined_lists
abbrev s_turned_piece : Stmt := topS 4
def N_turned_piece : List Str := ["size", "ties", "first", "second", "two", "kept", "tie", "lists", "places"]
def p_turned_piece : List Str := ["size", "ties", "first", "second"]
def b_turned_piece : Ss := (.cons (.asg 4 (.lst (.cons (.var 2) (.cons (.var 3) .nil)))) (.cons (.asg 5 (.comp [6] (.nm 6) (.seq (.var 1)) (.if_ (.and (.isin true (.ix (.var 6) (.cint 0)) (.var 4)) (.isin true (.ix (.var 6) (.cint 1)) (.var 4)))) (.var 6))) (.cons (.asg 7 (.comp [8] (.nm 8) (.seq (.callF "joined_lists" f_joined_lists (.cons (.var 0) (.cons (.var 5) .nil)))) (.if_ (.isin true (.ix (.var 8) (.cint 0)) (.var 4))) (.var 8))) (.cons (.ret (.ix (.var 7) (.cint 0))) .nil))))
def f_turned_piece : List D → Option D := runD 4 9 b_turned_piece
abbrev s_twisted : Stmt := topS 6
def N_twisted : List Str := ["size", "ties", "first", "second", "piece", "found", "tie"]
def p_twisted : List Str := ["size", "ties", "first", "second"]
def L_twisted_0 : Ss := (.cons (.ite (.or (.isin false (.ix (.var 6) (.cint 0)) (.var 4)) (.isin false (.ix (.var 6) (.cint 1)) (.var 4))) (.cons (.app 5 (.tup (.cons (.call "other_end" f_other_end (.cons (.ix (.var 6) (.cint 0)) (.cons (.var 2) (.cons (.var 3) .nil)))) (.cons (.call "other_end" f_other_end (.cons (.ix (.var 6) (.cint 1)) (.cons (.var 2) (.cons (.var 3) .nil)))) .nil)))) .nil) (.cons (.app 5 (.var 6)) .nil)) .nil)
def S_twisted_0 : Sm := .for_ (.nm 6) (.seq (.var 1)) L_twisted_0
def b_twisted : Ss := (.cons (.asg 4 (.call "turned_piece" f_turned_piece (.cons (.var 0) (.cons (.var 1) (.cons (.var 2) (.cons (.var 3) .nil)))))) (.cons (.asgF 5 (.lst .nil)) (.cons (S_twisted_0) (.cons (.retO 5) .nil))))
def f_twisted : List D → Option (List D) := runF 4 7 b_twisted
abbrev s__law_told : Stmt := topS 14
def N__law_told : List Str := ["size", "ties", "first", "second", "due", "passed", "told", "k"]
def p__law_told : List Str := ["size", "ties", "first", "second"]
def L__law_told_0 : Ss := (.cons (.ite (.and (.isin false (.ix (.ix (.var 1) (.var 7)) (.cint 0)) (.lst (.cons (.var 2) (.cons (.var 3) .nil)))) (.and (.isin false (.ix (.ix (.var 1) (.var 7)) (.cint 1)) (.lst (.cons (.var 2) (.cons (.var 3) .nil)))) (.cmp .ne (.ix (.var 6) (.var 7)) (.ix (.var 1) (.var 7))))) (.cons (.ret (.cbl false)) .nil) .nil) .nil)
def S__law_told_0 : Sm := .for_ (.nm 7) (.r1 (.bfn .len (.cons (.var 1) .nil))) L__law_told_0
def b__law_told : Ss := (.cons (.asg 4 (.callF "_law_twist" f__law_twist (.cons (.var 0) (.cons (.var 1) (.cons (.var 2) (.cons (.var 3) .nil)))))) (.cons (.asg 5 (.list (.var 1))) (.cons (.asgF 6 (.callF "twisted" f_twisted (.cons (.var 0) (.cons (.var 5) (.cons (.var 2) (.cons (.var 3) .nil)))))) (.cons (.ite (.or (.cmp .ne (.var 5) (.var 1)) (.or (.not (.is .list (.var 6))) (.cmp .ne (.repr (.var 6)) (.repr (.var 4))))) (.cons (.ret (.cbl false)) .nil) .nil) (.cons (.ite (.or (.cmp .ne (.callF "twisted" f_twisted (.cons (.var 0) (.cons (.var 5) (.cons (.var 3) (.cons (.var 2) .nil))))) (.var 4)) (.cmp .ne (.callF "twisted" f_twisted (.cons (.var 0) (.cons (.var 4) (.cons (.var 2) (.cons (.var 3) .nil))))) (.var 1))) (.cons (.ret (.cbl false)) .nil) .nil) (.cons (S__law_told_0) (.cons (.app 6 (.tup (.cons (.cint 0) (.cons (.cint 0) .nil)))) (.cons (.ret (.cmp .eq (.callF "twisted" f_twisted (.cons (.var 0) (.cons (.var 5) (.cons (.var 2) (.cons (.var 3) .nil))))) (.var 4))) .nil))))))))
def f__law_told : List D → Option D := runD 4 8 b__law_told
abbrev s__law_two_pieces : Stmt := topS 13
def N__law_two_pieces : List Str := ["draws", "at", "many", "ties", "k", "cell", "side", "places"]
def p__law_two_pieces : List Str := ["draws", "at", "many"]
def L__law_two_pieces_0 : Ss := (.cons (.asg 5 (.bin .add (.call "_law_cell" f__law_cell (.cons (.var 0) (.cons (.bin .add (.var 1) (.var 4)) .nil))) (.bin .mul (.cint 19) (.var 4)))) (.cons (.asg 6 (.bin .mod (.var 5) (.cint 3))) (.cons (.asg 7 (.ix (.lst (.cons (.lst (.cons (.cint 0) (.cons (.cint 1) (.cons (.cint 2) (.cons (.cint 3) .nil))))) (.cons (.lst (.cons (.cint 0) (.cons (.cint 1) (.cons (.cint 4) (.cons (.cint 5) .nil))))) (.cons (.lst (.cons (.cint 0) (.cons (.cint 1) .nil))) .nil)))) (.var 6))) (.cons (.app 3 (.tup (.cons (.ix (.var 7) (.bin .mod (.bin .fdiv (.var 5) (.cint 3)) (.bfn .len (.cons (.var 7) .nil)))) (.cons (.ix (.var 7) (.bin .mod (.bin .fdiv (.var 5) (.cint 15)) (.bfn .len (.cons (.var 7) .nil)))) .nil)))) .nil))))
def S__law_two_pieces_0 : Sm := .for_ (.nm 4) (.r1 (.var 2)) L__law_two_pieces_0
def b__law_two_pieces : Ss := (.cons (.asgF 3 (.lst .nil)) (.cons (S__law_two_pieces_0) (.cons (.retO 3) .nil)))
def f__law_two_pieces : List D → Option (List D) := runF 3 8 b__law_two_pieces
abbrev s__law_wide : Stmt := topS 16
def N__law_wide : List Str := ["draws", "size", "half", "ties", "k", "cell", "places", "names", "place", "other", "moved", "one"]
def p__law_wide : List Str := ["draws"]
def L__law_wide_0 : Ss := (.cons (.asg 5 (.bin .add (.call "_law_cell" f__law_cell (.cons (.var 0) (.cons (.bin .add (.cint 20) (.var 4)) .nil))) (.bin .mul (.cint 19) (.var 4)))) (.cons (.asg 6 (.ix (.lst (.cons (.bin .add (.lst (.cons (.cint 0) (.cons (.cint 1) .nil))) (.lrng (.r2 (.cint 2) (.var 2)))) (.cons (.bin .add (.lst (.cons (.cint 0) (.cons (.cint 1) .nil))) (.lrng (.r2 (.var 2) (.var 1)))) .nil))) (.bin .mod (.var 5) (.cint 2)))) (.cons (.app 3 (.tup (.cons (.ix (.var 6) (.bin .mod (.bin .fdiv (.var 5) (.cint 2)) (.bfn .len (.cons (.var 6) .nil)))) (.cons (.ix (.var 6) (.bin .mod (.bin .fdiv (.var 5) (.cint 31)) (.bfn .len (.cons (.var 6) .nil)))) .nil)))) .nil)))
def S__law_wide_0 : Sm := .for_ (.nm 4) (.r1 (.bin .add (.cint 7) (.bin .mod (.ix (.var 0) (.cint 52)) (.cint 6)))) L__law_wide_0
def L__law_wide_1 : Ss := (.cons (.asg 9 (.bin .mod (.call "_law_cell" f__law_cell (.cons (.var 0) (.cons (.bin .add (.cint 40) (.var 8)) .nil))) (.bin .add (.var 8) (.cint 1)))) (.cons (.swap 7 (.var 8) (.var 9) (.ix (.var 7) (.var 9)) (.ix (.var 7) (.var 8))) .nil))
def S__law_wide_1 : Sm := .for_ (.nm 8) (.r2 (.cint 1) (.var 1)) L__law_wide_1
def b__law_wide : Ss := (.cons (.asg 1 (.bin .add (.cint 8) (.bin .mod (.ix (.var 0) (.cint 50)) (.cint 5)))) (.cons (.asg 2 (.bin .add (.cint 4) (.bin .mod (.ix (.var 0) (.cint 51)) (.cint 3)))) (.cons (.asgF 3 (.lst .nil)) (.cons (S__law_wide_0) (.cons (.asgF 7 (.lrng (.r1 (.var 1)))) (.cons (S__law_wide_1) (.cons (.frz 3) (.cons (.asg 10 (.comp [11, 9] (.tup [11, 9]) (.seq (.var 3)) .yes (.tup (.cons (.oix 7 (.var 11)) (.cons (.oix 7 (.var 9)) .nil))))) (.cons (.ret (.and (.call "_law_told" f__law_told (.cons (.var 1) (.cons (.var 3) (.cons (.cint 0) (.cons (.cint 1) .nil))))) (.call "_law_told" f__law_told (.cons (.var 1) (.cons (.var 10) (.cons (.oix 7 (.cint 0)) (.cons (.oix 7 (.cint 1)) .nil))))))) .nil)))))))))
def f__law_wide : List D → Option D := runD 1 12 b__law_wide
abbrev s_law : Stmt := topS 17
def N_law : List Str := ["script", "draws", "ties", "names", "moved", "one", "other", "size", "free", "first", "second"]
def p_law : List Str := ["script"]
def b_law : Ss := (.cons (.asg 1 (.callF "_law_draws" f__law_draws (.cons (.var 0) (.cons (.cint 60) .nil)))) (.cons (.asg 2 (.callF "_law_two_pieces" f__law_two_pieces (.cons (.var 1) (.cons (.cint 8) (.cons (.bin .mod (.ix (.var 1) (.cint 0)) (.cint 10)) .nil))))) (.cons (.asg 3 (.callF "_law_renamed" f__law_renamed (.cons (.var 1) (.cons (.cint 30) (.cons (.cint 6) .nil))))) (.cons (.asg 4 (.comp [5, 6] (.tup [5, 6]) (.seq (.var 2)) .yes (.tup (.cons (.ix (.var 3) (.var 5)) (.cons (.ix (.var 3) (.var 6)) .nil))))) (.cons (.ite (.or (.not (.call "_law_told" f__law_told (.cons (.cint 6) (.cons (.var 2) (.cons (.cint 0) (.cons (.cint 1) .nil)))))) (.or (.not (.call "_law_told" f__law_told (.cons (.cint 6) (.cons (.var 2) (.cons (.cint 1) (.cons (.cint 0) .nil)))))) (.not (.call "_law_told" f__law_told (.cons (.cint 6) (.cons (.var 4) (.cons (.ix (.var 3) (.cint 0)) (.cons (.ix (.var 3) (.cint 1)) .nil)))))))) (.cons (.ret (.cbl false)) .nil) .nil) (.cons (.asg 7 (.bin .add (.cint 4) (.bin .mod (.ix (.var 1) (.cint 1)) (.cint 2)))) (.cons (.asg 8 (.callF "_law_ties" f__law_ties (.cons (.var 1) (.cons (.cint 40) (.cons (.var 7) (.cons (.bin .mod (.ix (.var 1) (.cint 2)) (.cint 7)) (.cons (.cbl false) .nil))))))) (.cons (.asg 9 (.bin .mod (.ix (.var 1) (.cint 3)) (.var 7))) (.cons (.asg 10 (.bin .mod (.bin .add (.bin .add (.var 9) (.cint 1)) (.bin .mod (.ix (.var 1) (.cint 4)) (.bin .sub (.var 7) (.cint 1)))) (.var 7))) (.cons (.ite (.and (.cmp .gt (.bfn .len (.cons (.callF "_law_pieces_without" f__law_pieces_without (.cons (.var 7) (.cons (.var 8) (.cons (.var 9) (.cons (.var 10) .nil))))) .nil)) (.cint 1)) (.not (.call "_law_told" f__law_told (.cons (.var 7) (.cons (.var 8) (.cons (.var 9) (.cons (.var 10) .nil))))))) (.cons (.ret (.cbl false)) .nil) .nil) (.cons (.ite (.and (.cmp .eq (.bin .mod (.ix (.var 1) (.cint 53)) (.cint 3)) (.cint 1)) (.not (.call "_law_wide" f__law_wide (.cons (.var 1) .nil)))) (.cons (.ret (.cbl false)) .nil) .nil) (.cons (.ite (.cmp .ne (.callF "twisted" f_twisted (.cons (.cint 4) (.cons (.lst (.cons (.tup (.cons (.cint 0) (.cons (.cint 2) .nil))) (.cons (.tup (.cons (.cint 2) (.cons (.cint 1) .nil))) (.cons (.tup (.cons (.cint 0) (.cons (.cint 3) .nil))) (.cons (.tup (.cons (.cint 3) (.cons (.cint 1) .nil))) (.cons (.tup (.cons (.cint 0) (.cons (.cint 1) .nil))) .nil)))))) (.cons (.cint 0) (.cons (.cint 1) .nil))))) (.lst (.cons (.tup (.cons (.cint 1) (.cons (.cint 2) .nil))) (.cons (.tup (.cons (.cint 2) (.cons (.cint 0) .nil))) (.cons (.tup (.cons (.cint 0) (.cons (.cint 3) .nil))) (.cons (.tup (.cons (.cint 3) (.cons (.cint 1) .nil))) (.cons (.tup (.cons (.cint 0) (.cons (.cint 1) .nil))) .nil))))))) (.cons (.ret (.cbl false)) .nil) .nil) (.cons (.ret (.and (.cmp .eq (.callF "twisted" f_twisted (.cons (.cint 4) (.cons (.lst (.cons (.tup (.cons (.cint 2) (.cons (.cint 2) .nil))) (.cons (.tup (.cons (.cint 0) (.cons (.cint 3) .nil))) (.cons (.tup (.cons (.cint 0) (.cons (.cint 0) .nil))) .nil)))) (.cons (.cint 0) (.cons (.cint 1) .nil))))) (.lst (.cons (.tup (.cons (.cint 2) (.cons (.cint 2) .nil))) (.cons (.tup (.cons (.cint 0) (.cons (.cint 3) .nil))) (.cons (.tup (.cons (.cint 0) (.cons (.cint 0) .nil))) .nil))))) (.call "_law_told" f__law_told (.cons (.cint 4) (.cons (.lst .nil) (.cons (.cint 2) (.cons (.cint 3) .nil))))))) .nil)))))))))))))
def f_law : List D → Option D := runD 1 11 b_law
end K90

set_option Elab.async false
set_option linter.all false
set_option maxRecDepth 100000
set_option autoImplicit false
set_option maxHeartbeats 4000000
/-! K90: each def keeps what its term tells -/
namespace K90
open PySem L2 Fv PyProof.Rows
theorem sc__law_draws : FnScope N__law_draws p__law_draws (defScope s__law_draws) := ⟨rfl, rfl, rfl, by decide +kernel, rfl, by decide +kernel, by decide +kernel⟩
theorem m__law_draws : mSs ⟨N__law_draws, defScope s__law_draws, fun _ => true⟩ b__law_draws (defBody s__law_draws) = true := by decide +kernel
theorem sc__law_pieces_without : FnScope N__law_pieces_without p__law_pieces_without (defScope s__law_pieces_without) := ⟨rfl, rfl, rfl, by decide +kernel, rfl, by decide +kernel, by decide +kernel⟩
theorem m__law_pieces_without : mSs ⟨N__law_pieces_without, defScope s__law_pieces_without, fun _ => true⟩ b__law_pieces_without (defBody s__law_pieces_without) = true := by decide +kernel
theorem sc__law_cell : FnScope N__law_cell p__law_cell (defScope s__law_cell) := ⟨rfl, rfl, rfl, by decide +kernel, rfl, by decide +kernel, by decide +kernel⟩
theorem m__law_cell : mSs ⟨N__law_cell, defScope s__law_cell, fun _ => true⟩ b__law_cell (defBody s__law_cell) = true := by decide +kernel
theorem sc__law_renamed : FnScope N__law_renamed p__law_renamed (defScope s__law_renamed) := ⟨rfl, rfl, rfl, by decide +kernel, rfl, by decide +kernel, by decide +kernel⟩
theorem m__law_renamed : mSs ⟨N__law_renamed, defScope s__law_renamed, fun _ => true⟩ b__law_renamed (defBody s__law_renamed) = true := by decide +kernel
theorem sc__law_ties : FnScope N__law_ties p__law_ties (defScope s__law_ties) := ⟨rfl, rfl, rfl, by decide +kernel, rfl, by decide +kernel, by decide +kernel⟩
theorem m__law_ties : mSs ⟨N__law_ties, defScope s__law_ties, fun _ => true⟩ b__law_ties (defBody s__law_ties) = true := by decide +kernel
theorem sc__law_twist : FnScope N__law_twist p__law_twist (defScope s__law_twist) := ⟨rfl, rfl, rfl, by decide +kernel, rfl, by decide +kernel, by decide +kernel⟩
theorem m__law_twist : mSs ⟨N__law_twist, defScope s__law_twist, fun _ => true⟩ b__law_twist (defBody s__law_twist) = true := by decide +kernel
theorem sc_other_end : FnScope N_other_end p_other_end (defScope s_other_end) := ⟨rfl, rfl, rfl, by decide +kernel, rfl, by decide +kernel, by decide +kernel⟩
theorem m_other_end : mSs ⟨N_other_end, defScope s_other_end, fun _ => true⟩ b_other_end (defBody s_other_end) = true := by decide +kernel
theorem sc_renamed : FnScope N_renamed p_renamed (defScope s_renamed) := ⟨rfl, rfl, rfl, by decide +kernel, rfl, by decide +kernel, by decide +kernel⟩
theorem m_renamed : mSs ⟨N_renamed, defScope s_renamed, fun _ => true⟩ b_renamed (defBody s_renamed) = true := by decide +kernel
theorem sc_joined_lists : FnScope N_joined_lists p_joined_lists (defScope s_joined_lists) := ⟨rfl, rfl, rfl, by decide +kernel, rfl, by decide +kernel, by decide +kernel⟩
theorem m_joined_lists : mSs ⟨N_joined_lists, defScope s_joined_lists, fun _ => true⟩ b_joined_lists (defBody s_joined_lists) = true := by decide +kernel
theorem sc_turned_piece : FnScope N_turned_piece p_turned_piece (defScope s_turned_piece) := ⟨rfl, rfl, rfl, by decide +kernel, rfl, by decide +kernel, by decide +kernel⟩
theorem m_turned_piece : mSs ⟨N_turned_piece, defScope s_turned_piece, fun _ => true⟩ b_turned_piece (defBody s_turned_piece) = true := by decide +kernel
theorem sc_twisted : FnScope N_twisted p_twisted (defScope s_twisted) := ⟨rfl, rfl, rfl, by decide +kernel, rfl, by decide +kernel, by decide +kernel⟩
theorem m_twisted : mSs ⟨N_twisted, defScope s_twisted, fun _ => true⟩ b_twisted (defBody s_twisted) = true := by decide +kernel
theorem sc__law_told : FnScope N__law_told p__law_told (defScope s__law_told) := ⟨rfl, rfl, rfl, by decide +kernel, rfl, by decide +kernel, by decide +kernel⟩
theorem m__law_told : mSs ⟨N__law_told, defScope s__law_told, fun _ => true⟩ b__law_told (defBody s__law_told) = true := by decide +kernel
theorem sc__law_two_pieces : FnScope N__law_two_pieces p__law_two_pieces (defScope s__law_two_pieces) := ⟨rfl, rfl, rfl, by decide +kernel, rfl, by decide +kernel, by decide +kernel⟩
theorem m__law_two_pieces : mSs ⟨N__law_two_pieces, defScope s__law_two_pieces, fun _ => true⟩ b__law_two_pieces (defBody s__law_two_pieces) = true := by decide +kernel
theorem sc__law_wide : FnScope N__law_wide p__law_wide (defScope s__law_wide) := ⟨rfl, rfl, rfl, by decide +kernel, rfl, by decide +kernel, by decide +kernel⟩
theorem m__law_wide : mSs ⟨N__law_wide, defScope s__law_wide, fun _ => true⟩ b__law_wide (defBody s__law_wide) = true := by decide +kernel
theorem sc_law : FnScope N_law p_law (defScope s_law) := ⟨rfl, rfl, rfl, by decide +kernel, rfl, by decide +kernel, by decide +kernel⟩
theorem m_law : mSs ⟨N_law, defScope s_law, fun _ => true⟩ b_law (defBody s_law) = true := by decide +kernel
structure Tops (M : Md) : Prop where
  t__law_draws : Tp M "_law_draws" s__law_draws p__law_draws
  t__law_pieces_without : Tp M "_law_pieces_without" s__law_pieces_without p__law_pieces_without
  t__law_cell : Tp M "_law_cell" s__law_cell p__law_cell
  t__law_renamed : Tp M "_law_renamed" s__law_renamed p__law_renamed
  t__law_ties : Tp M "_law_ties" s__law_ties p__law_ties
  t__law_twist : Tp M "_law_twist" s__law_twist p__law_twist
  t_other_end : Tp M "other_end" s_other_end p_other_end
  t_renamed : Tp M "renamed" s_renamed p_renamed
  t_joined_lists : Tp M "joined_lists" s_joined_lists p_joined_lists
  t_turned_piece : Tp M "turned_piece" s_turned_piece p_turned_piece
  t_twisted : Tp M "twisted" s_twisted p_twisted
  t__law_told : Tp M "_law_told" s__law_told p__law_told
  t__law_two_pieces : Tp M "_law_two_pieces" s__law_two_pieces p__law_two_pieces
  t__law_wide : Tp M "_law_wide" s__law_wide p__law_wide
  hb : ∀ x ∈ bltNames, M.mg x = none
section
variable {M : Md} (T : Tops M)
include T
theorem k__law_draws : FnAt (M.lv 1) "_law_draws" (spF f__law_draws) := at_F (k := 0) T.t__law_draws sc__law_draws m__law_draws (by simp only [b__law_draws, fSs, fS, fE, fA, fI, fC, fB, true_and, and_true, and_self, S__law_draws_0, L__law_draws_0, S__law_draws_1, L__law_draws_1, S__law_draws_2, L__law_draws_2, S__law_draws_3, L__law_draws_3]) T.hb
theorem k__law_pieces_without : FnAt (M.lv 1) "_law_pieces_without" (spF f__law_pieces_without) := at_F (k := 0) T.t__law_pieces_without sc__law_pieces_without m__law_pieces_without (by simp only [b__law_pieces_without, fSs, fS, fE, fA, fI, fC, fB, true_and, and_true, and_self, S__law_pieces_without_0, L__law_pieces_without_0]) T.hb
theorem k__law_cell : FnAt (M.lv 1) "_law_cell" (spP f__law_cell) := at_P (k := 0) T.t__law_cell sc__law_cell m__law_cell (by simp only [b__law_cell, fSs, fS, fE, fA, fI, fC, fB, true_and, and_true, and_self]) T.hb
theorem k__law_renamed : FnAt (M.lv 2) "_law_renamed" (spF f__law_renamed) := at_F (k := 1) T.t__law_renamed sc__law_renamed m__law_renamed (by
    simp only [b__law_renamed, fSs, fS, fE, fA, fI, fC, fB, true_and, and_true, and_self, S__law_renamed_0, L__law_renamed_0]
    repeat' apply And.intro
    all_goals first
      | exact (k__law_cell T).to (by decide)) T.hb
theorem k__law_ties : FnAt (M.lv 2) "_law_ties" (spF f__law_ties) := at_F (k := 1) T.t__law_ties sc__law_ties m__law_ties (by
    simp only [b__law_ties, fSs, fS, fE, fA, fI, fC, fB, true_and, and_true, and_self, S__law_ties_0, L__law_ties_0]
    repeat' apply And.intro
    all_goals first
      | exact (k__law_cell T).to (by decide)) T.hb
theorem k__law_twist : FnAt (M.lv 2) "_law_twist" (spF f__law_twist) := at_F (k := 1) T.t__law_twist sc__law_twist m__law_twist (by
    simp only [b__law_twist, fSs, fS, fE, fA, fI, fC, fB, true_and, and_true, and_self, S__law_twist_0, L__law_twist_0]
    repeat' apply And.intro
    all_goals first
      | exact (k__law_pieces_without T).to (by decide)) T.hb
theorem k_other_end : FnAt (M.lv 1) "other_end" (spP f_other_end) := at_P (k := 0) T.t_other_end sc_other_end m_other_end (by simp only [b_other_end, fSs, fS, fE, fA, fI, fC, fB, true_and, and_true, and_self]) T.hb
theorem k_renamed : FnAt (M.lv 1) "renamed" (spF f_renamed) := at_F (k := 0) T.t_renamed sc_renamed m_renamed (by simp only [b_renamed, fSs, fS, fE, fA, fI, fC, fB, true_and, and_true, and_self, S_renamed_0, L_renamed_0]) T.hb
theorem k_joined_lists : FnAt (M.lv 2) "joined_lists" (spF f_joined_lists) := at_F (k := 1) T.t_joined_lists sc_joined_lists m_joined_lists (by
    simp only [b_joined_lists, fSs, fS, fE, fA, fI, fC, fB, true_and, and_true, and_self, S_joined_lists_0, L_joined_lists_0, S_joined_lists_1, L_joined_lists_1]
    repeat' apply And.intro
    all_goals first
      | exact (k_renamed T).to (by decide)) T.hb
theorem k_turned_piece : FnAt (M.lv 3) "turned_piece" (spP f_turned_piece) := at_P (k := 2) T.t_turned_piece sc_turned_piece m_turned_piece (by
    simp only [b_turned_piece, fSs, fS, fE, fA, fI, fC, fB, true_and, and_true, and_self]
    repeat' apply And.intro
    all_goals first
      | exact (k_joined_lists T).to (by decide)) T.hb
theorem k_twisted : FnAt (M.lv 4) "twisted" (spF f_twisted) := at_F (k := 3) T.t_twisted sc_twisted m_twisted (by
    simp only [b_twisted, fSs, fS, fE, fA, fI, fC, fB, true_and, and_true, and_self, S_twisted_0, L_twisted_0]
    repeat' apply And.intro
    all_goals first
      | exact (k_other_end T).to (by decide)
      | exact (k_turned_piece T).to (by decide)) T.hb
theorem k__law_told : FnAt (M.lv 5) "_law_told" (spP f__law_told) := at_P (k := 4) T.t__law_told sc__law_told m__law_told (by
    simp only [b__law_told, fSs, fS, fE, fA, fI, fC, fB, true_and, and_true, and_self, S__law_told_0, L__law_told_0]
    repeat' apply And.intro
    all_goals first
      | exact (k__law_twist T).to (by decide)
      | exact (k_twisted T).to (by decide)) T.hb
theorem k__law_two_pieces : FnAt (M.lv 2) "_law_two_pieces" (spF f__law_two_pieces) := at_F (k := 1) T.t__law_two_pieces sc__law_two_pieces m__law_two_pieces (by
    simp only [b__law_two_pieces, fSs, fS, fE, fA, fI, fC, fB, true_and, and_true, and_self, S__law_two_pieces_0, L__law_two_pieces_0]
    repeat' apply And.intro
    all_goals first
      | exact (k__law_cell T).to (by decide)) T.hb
theorem k__law_wide : FnAt (M.lv 6) "_law_wide" (spP f__law_wide) := at_P (k := 5) T.t__law_wide sc__law_wide m__law_wide (by
    simp only [b__law_wide, fSs, fS, fE, fA, fI, fC, fB, true_and, and_true, and_self, S__law_wide_0, L__law_wide_0, S__law_wide_1, L__law_wide_1]
    repeat' apply And.intro
    all_goals first
      | exact (k__law_cell T).to (by decide)
      | exact (k__law_told T).to (by decide)) T.hb
theorem law_hf : fSs (M.lv 6) b_law := by
    simp only [b_law, fSs, fS, fE, fA, fI, fC, fB, true_and, and_true, and_self]
    repeat' apply And.intro
    all_goals first
      | exact (k__law_draws T).to (by decide)
      | exact (k__law_pieces_without T).to (by decide)
      | exact (k__law_renamed T).to (by decide)
      | exact (k__law_ties T).to (by decide)
      | exact (k__law_told T).to (by decide)
      | exact (k__law_two_pieces T).to (by decide)
      | exact (k__law_wide T).to (by decide)
      | exact (k_twisted T).to (by decide)
end
theorem all_mk {l : PySem.W.OpenLaw} {w : World} {K : PySem.W.Frag} {h : Heap} {mg : Str → Option Value} {fa : Addr} (X : K.In h) (G : h.Ns mainGlobals mg) (hfa : mg "law" = some (.ref fa))
    {f0 : Addr} {od0 an0 : Option Addr} {sl0 : Array (Option Value)} {oc0 kV0 dc0 pm0 cd0 ct0 : Value}
    {f1 : Addr} {od1 an1 : Option Addr} {sl1 : Array (Option Value)} {oc1 kV1 dc1 pm1 cd1 ct1 : Value}
    {f2 : Addr} {od2 an2 : Option Addr} {sl2 : Array (Option Value)} {oc2 kV2 dc2 pm2 cd2 ct2 : Value}
    {f3 : Addr} {od3 an3 : Option Addr} {sl3 : Array (Option Value)} {oc3 kV3 dc3 pm3 cd3 ct3 : Value}
    {f4 : Addr} {od4 an4 : Option Addr} {sl4 : Array (Option Value)} {oc4 kV4 dc4 pm4 cd4 ct4 : Value}
    {f5 : Addr} {od5 an5 : Option Addr} {sl5 : Array (Option Value)} {oc5 kV5 dc5 pm5 cd5 ct5 : Value}
    {f6 : Addr} {od6 an6 : Option Addr} {sl6 : Array (Option Value)} {oc6 kV6 dc6 pm6 cd6 ct6 : Value}
    {f7 : Addr} {od7 an7 : Option Addr} {sl7 : Array (Option Value)} {oc7 kV7 dc7 pm7 cd7 ct7 : Value}
    {f8 : Addr} {od8 an8 : Option Addr} {sl8 : Array (Option Value)} {oc8 kV8 dc8 pm8 cd8 ct8 : Value}
    {f9 : Addr} {od9 an9 : Option Addr} {sl9 : Array (Option Value)} {oc9 kV9 dc9 pm9 cd9 ct9 : Value}
    {f10 : Addr} {od10 an10 : Option Addr} {sl10 : Array (Option Value)} {oc10 kV10 dc10 pm10 cd10 ct10 : Value}
    {f11 : Addr} {od11 an11 : Option Addr} {sl11 : Array (Option Value)} {oc11 kV11 dc11 pm11 cd11 ct11 : Value}
    {f12 : Addr} {od12 an12 : Option Addr} {sl12 : Array (Option Value)} {oc12 kV12 dc12 pm12 cd12 ct12 : Value}
    {f13 : Addr} {od13 an13 : Option Addr} {sl13 : Array (Option Value)} {oc13 kV13 dc13 pm13 cd13 ct13 : Value}
    {f14 : Addr} {od14 an14 : Option Addr} {sl14 : Array (Option Value)} {oc14 kV14 dc14 pm14 cd14 ct14 : Value}
    (a0 : PySem.W.nsIn K mainGlobals "_law_draws" = some (some (.ref f0))) (l0 : K.lookup f0 = some ⟨oc0, od0, .func (PySem.W.fnOf "_law_draws" "_law_draws" (defArgs s__law_draws) (defBody s__law_draws) (defScope s__law_draws) .none kV0 dc0 pm0 an0 cd0 ct0), sl0⟩) (c0 : PySem.W.codeIn K cd0 "_law_draws" = true) (g0 : PySem.W.keepIn K (.ref f0) = true)
    (a1 : PySem.W.nsIn K mainGlobals "_law_pieces_without" = some (some (.ref f1))) (l1 : K.lookup f1 = some ⟨oc1, od1, .func (PySem.W.fnOf "_law_pieces_without" "_law_pieces_without" (defArgs s__law_pieces_without) (defBody s__law_pieces_without) (defScope s__law_pieces_without) .none kV1 dc1 pm1 an1 cd1 ct1), sl1⟩) (c1 : PySem.W.codeIn K cd1 "_law_pieces_without" = true) (g1 : PySem.W.keepIn K (.ref f1) = true)
    (a2 : PySem.W.nsIn K mainGlobals "_law_cell" = some (some (.ref f2))) (l2 : K.lookup f2 = some ⟨oc2, od2, .func (PySem.W.fnOf "_law_cell" "_law_cell" (defArgs s__law_cell) (defBody s__law_cell) (defScope s__law_cell) .none kV2 dc2 pm2 an2 cd2 ct2), sl2⟩) (c2 : PySem.W.codeIn K cd2 "_law_cell" = true) (g2 : PySem.W.keepIn K (.ref f2) = true)
    (a3 : PySem.W.nsIn K mainGlobals "_law_renamed" = some (some (.ref f3))) (l3 : K.lookup f3 = some ⟨oc3, od3, .func (PySem.W.fnOf "_law_renamed" "_law_renamed" (defArgs s__law_renamed) (defBody s__law_renamed) (defScope s__law_renamed) .none kV3 dc3 pm3 an3 cd3 ct3), sl3⟩) (c3 : PySem.W.codeIn K cd3 "_law_renamed" = true) (g3 : PySem.W.keepIn K (.ref f3) = true)
    (a4 : PySem.W.nsIn K mainGlobals "_law_ties" = some (some (.ref f4))) (l4 : K.lookup f4 = some ⟨oc4, od4, .func (PySem.W.fnOf "_law_ties" "_law_ties" (defArgs s__law_ties) (defBody s__law_ties) (defScope s__law_ties) .none kV4 dc4 pm4 an4 cd4 ct4), sl4⟩) (c4 : PySem.W.codeIn K cd4 "_law_ties" = true) (g4 : PySem.W.keepIn K (.ref f4) = true)
    (a5 : PySem.W.nsIn K mainGlobals "_law_twist" = some (some (.ref f5))) (l5 : K.lookup f5 = some ⟨oc5, od5, .func (PySem.W.fnOf "_law_twist" "_law_twist" (defArgs s__law_twist) (defBody s__law_twist) (defScope s__law_twist) .none kV5 dc5 pm5 an5 cd5 ct5), sl5⟩) (c5 : PySem.W.codeIn K cd5 "_law_twist" = true) (g5 : PySem.W.keepIn K (.ref f5) = true)
    (a6 : PySem.W.nsIn K mainGlobals "other_end" = some (some (.ref f6))) (l6 : K.lookup f6 = some ⟨oc6, od6, .func (PySem.W.fnOf "other_end" "other_end" (defArgs s_other_end) (defBody s_other_end) (defScope s_other_end) .none kV6 dc6 pm6 an6 cd6 ct6), sl6⟩) (c6 : PySem.W.codeIn K cd6 "other_end" = true) (g6 : PySem.W.keepIn K (.ref f6) = true)
    (a7 : PySem.W.nsIn K mainGlobals "renamed" = some (some (.ref f7))) (l7 : K.lookup f7 = some ⟨oc7, od7, .func (PySem.W.fnOf "renamed" "renamed" (defArgs s_renamed) (defBody s_renamed) (defScope s_renamed) .none kV7 dc7 pm7 an7 cd7 ct7), sl7⟩) (c7 : PySem.W.codeIn K cd7 "renamed" = true) (g7 : PySem.W.keepIn K (.ref f7) = true)
    (a8 : PySem.W.nsIn K mainGlobals "joined_lists" = some (some (.ref f8))) (l8 : K.lookup f8 = some ⟨oc8, od8, .func (PySem.W.fnOf "joined_lists" "joined_lists" (defArgs s_joined_lists) (defBody s_joined_lists) (defScope s_joined_lists) .none kV8 dc8 pm8 an8 cd8 ct8), sl8⟩) (c8 : PySem.W.codeIn K cd8 "joined_lists" = true) (g8 : PySem.W.keepIn K (.ref f8) = true)
    (a9 : PySem.W.nsIn K mainGlobals "turned_piece" = some (some (.ref f9))) (l9 : K.lookup f9 = some ⟨oc9, od9, .func (PySem.W.fnOf "turned_piece" "turned_piece" (defArgs s_turned_piece) (defBody s_turned_piece) (defScope s_turned_piece) .none kV9 dc9 pm9 an9 cd9 ct9), sl9⟩) (c9 : PySem.W.codeIn K cd9 "turned_piece" = true) (g9 : PySem.W.keepIn K (.ref f9) = true)
    (a10 : PySem.W.nsIn K mainGlobals "twisted" = some (some (.ref f10))) (l10 : K.lookup f10 = some ⟨oc10, od10, .func (PySem.W.fnOf "twisted" "twisted" (defArgs s_twisted) (defBody s_twisted) (defScope s_twisted) .none kV10 dc10 pm10 an10 cd10 ct10), sl10⟩) (c10 : PySem.W.codeIn K cd10 "twisted" = true) (g10 : PySem.W.keepIn K (.ref f10) = true)
    (a11 : PySem.W.nsIn K mainGlobals "_law_told" = some (some (.ref f11))) (l11 : K.lookup f11 = some ⟨oc11, od11, .func (PySem.W.fnOf "_law_told" "_law_told" (defArgs s__law_told) (defBody s__law_told) (defScope s__law_told) .none kV11 dc11 pm11 an11 cd11 ct11), sl11⟩) (c11 : PySem.W.codeIn K cd11 "_law_told" = true) (g11 : PySem.W.keepIn K (.ref f11) = true)
    (a12 : PySem.W.nsIn K mainGlobals "_law_two_pieces" = some (some (.ref f12))) (l12 : K.lookup f12 = some ⟨oc12, od12, .func (PySem.W.fnOf "_law_two_pieces" "_law_two_pieces" (defArgs s__law_two_pieces) (defBody s__law_two_pieces) (defScope s__law_two_pieces) .none kV12 dc12 pm12 an12 cd12 ct12), sl12⟩) (c12 : PySem.W.codeIn K cd12 "_law_two_pieces" = true) (g12 : PySem.W.keepIn K (.ref f12) = true)
    (a13 : PySem.W.nsIn K mainGlobals "_law_wide" = some (some (.ref f13))) (l13 : K.lookup f13 = some ⟨oc13, od13, .func (PySem.W.fnOf "_law_wide" "_law_wide" (defArgs s__law_wide) (defBody s__law_wide) (defScope s__law_wide) .none kV13 dc13 pm13 an13 cd13 ct13), sl13⟩) (c13 : PySem.W.codeIn K cd13 "_law_wide" = true) (g13 : PySem.W.keepIn K (.ref f13) = true)
    (a14 : PySem.W.nsIn K mainGlobals "law" = some (some (.ref f14))) (l14 : K.lookup f14 = some ⟨oc14, od14, .func (PySem.W.fnOf "law" "law" (defArgs s_law) (defBody s_law) (defScope s_law) .none kV14 dc14 pm14 an14 cd14 ct14), sl14⟩) (c14 : PySem.W.codeIn K cd14 "law" = true) (g14 : PySem.W.keepIn K (.ref f14) = true)
    (z0 : PySem.W.nsIn K mainGlobals "len" = some none)
    (z1 : PySem.W.nsIn K mainGlobals "max" = some none)
    (z2 : PySem.W.nsIn K mainGlobals "min" = some none)
    (z3 : PySem.W.nsIn K mainGlobals "sum" = some none)
    (z4 : PySem.W.nsIn K mainGlobals "abs" = some none)
    (z5 : PySem.W.nsIn K mainGlobals "int" = some none)
    (z6 : PySem.W.nsIn K mainGlobals "list" = some none)
    (z7 : PySem.W.nsIn K mainGlobals "tuple" = some none)
    (z8 : PySem.W.nsIn K mainGlobals "sorted" = some none)
    (z9 : PySem.W.nsIn K mainGlobals "set" = some none)
    (z10 : PySem.W.nsIn K mainGlobals "range" = some none)
    (z11 : PySem.W.nsIn K mainGlobals "isinstance" = some none)
    (z12 : PySem.W.nsIn K mainGlobals "repr" = some none)
    (z13 : PySem.W.nsIn K mainGlobals "bool" = some none)
    (z14 : PySem.W.nsIn K mainGlobals "str" = some none)
    : ∃ fd : FuncData, (∀ (s : Shared) (v : Value), BindsTo s fd ⟨[v], []⟩ [("script", v)]) ∧ ∀ base : Heap, K.In base → base.Ns mainGlobals mg → GnOk l.prog w K mg base 7 fa fd ["script"] (spP f_law) := by
  have e := hfa.symm.trans (PySem.W.mg_of X G a14)
  cases e
  refine ⟨PySem.W.fnOf "law" "law" (defArgs s_law) (defBody s_law) (defScope s_law) .none kV14 dc14 pm14 an14 cd14 ct14, fun s v => .of_eq rfl, fun base _ _ => ?_⟩
  have T : Tops ⟨l.prog, w, K, mg, base, 0⟩ := {
    t__law_draws := ⟨_, _, fun_mk (st := s__law_draws) l0 c0 g0, PySem.W.mg_of X G a0, (fun_mk (st := s__law_draws) l0 c0 g0).binds (ps := p__law_draws) fun _ _ _ _ _ _ us hl => match us, hl with | [_, _], _ => rfl⟩
    t__law_pieces_without := ⟨_, _, fun_mk (st := s__law_pieces_without) l1 c1 g1, PySem.W.mg_of X G a1, (fun_mk (st := s__law_pieces_without) l1 c1 g1).binds (ps := p__law_pieces_without) fun _ _ _ _ _ _ us hl => match us, hl with | [_, _, _, _], _ => rfl⟩
    t__law_cell := ⟨_, _, fun_mk (st := s__law_cell) l2 c2 g2, PySem.W.mg_of X G a2, (fun_mk (st := s__law_cell) l2 c2 g2).binds (ps := p__law_cell) fun _ _ _ _ _ _ us hl => match us, hl with | [_, _], _ => rfl⟩
    t__law_renamed := ⟨_, _, fun_mk (st := s__law_renamed) l3 c3 g3, PySem.W.mg_of X G a3, (fun_mk (st := s__law_renamed) l3 c3 g3).binds (ps := p__law_renamed) fun _ _ _ _ _ _ us hl => match us, hl with | [_, _, _], _ => rfl⟩
    t__law_ties := ⟨_, _, fun_mk (st := s__law_ties) l4 c4 g4, PySem.W.mg_of X G a4, (fun_mk (st := s__law_ties) l4 c4 g4).binds (ps := p__law_ties) fun _ _ _ _ _ _ us hl => match us, hl with | [_, _, _, _, _], _ => rfl⟩
    t__law_twist := ⟨_, _, fun_mk (st := s__law_twist) l5 c5 g5, PySem.W.mg_of X G a5, (fun_mk (st := s__law_twist) l5 c5 g5).binds (ps := p__law_twist) fun _ _ _ _ _ _ us hl => match us, hl with | [_, _, _, _], _ => rfl⟩
    t_other_end := ⟨_, _, fun_mk (st := s_other_end) l6 c6 g6, PySem.W.mg_of X G a6, (fun_mk (st := s_other_end) l6 c6 g6).binds (ps := p_other_end) fun _ _ _ _ _ _ us hl => match us, hl with | [_, _, _], _ => rfl⟩
    t_renamed := ⟨_, _, fun_mk (st := s_renamed) l7 c7 g7, PySem.W.mg_of X G a7, (fun_mk (st := s_renamed) l7 c7 g7).binds (ps := p_renamed) fun _ _ _ _ _ _ us hl => match us, hl with | [_, _, _], _ => rfl⟩
    t_joined_lists := ⟨_, _, fun_mk (st := s_joined_lists) l8 c8 g8, PySem.W.mg_of X G a8, (fun_mk (st := s_joined_lists) l8 c8 g8).binds (ps := p_joined_lists) fun _ _ _ _ _ _ us hl => match us, hl with | [_, _], _ => rfl⟩
    t_turned_piece := ⟨_, _, fun_mk (st := s_turned_piece) l9 c9 g9, PySem.W.mg_of X G a9, (fun_mk (st := s_turned_piece) l9 c9 g9).binds (ps := p_turned_piece) fun _ _ _ _ _ _ us hl => match us, hl with | [_, _, _, _], _ => rfl⟩
    t_twisted := ⟨_, _, fun_mk (st := s_twisted) l10 c10 g10, PySem.W.mg_of X G a10, (fun_mk (st := s_twisted) l10 c10 g10).binds (ps := p_twisted) fun _ _ _ _ _ _ us hl => match us, hl with | [_, _, _, _], _ => rfl⟩
    t__law_told := ⟨_, _, fun_mk (st := s__law_told) l11 c11 g11, PySem.W.mg_of X G a11, (fun_mk (st := s__law_told) l11 c11 g11).binds (ps := p__law_told) fun _ _ _ _ _ _ us hl => match us, hl with | [_, _, _, _], _ => rfl⟩
    t__law_two_pieces := ⟨_, _, fun_mk (st := s__law_two_pieces) l12 c12 g12, PySem.W.mg_of X G a12, (fun_mk (st := s__law_two_pieces) l12 c12 g12).binds (ps := p__law_two_pieces) fun _ _ _ _ _ _ us hl => match us, hl with | [_, _, _], _ => rfl⟩
    t__law_wide := ⟨_, _, fun_mk (st := s__law_wide) l13 c13 g13, PySem.W.mg_of X G a13, (fun_mk (st := s__law_wide) l13 c13 g13).binds (ps := p__law_wide) fun _ _ _ _ _ _ us hl => match us, hl with | [_], _ => rfl⟩
    hb := fun x hx => by
      have hx2 : x = "len" ∨ x = "max" ∨ x = "min" ∨ x = "sum" ∨ x = "abs" ∨ x = "int" ∨ x = "list" ∨ x = "tuple" ∨ x = "sorted" ∨ x = "set" ∨ x = "range" ∨ x = "isinstance" ∨ x = "repr" ∨ x = "bool" ∨ x = "str" := by simpa [bltNames] using hx
      rcases hx2 with h | h | h | h | h | h | h | h | h | h | h | h | h | h | h <;> subst h
      · exact PySem.W.mg_none_of X G z0
      · exact PySem.W.mg_none_of X G z1
      · exact PySem.W.mg_none_of X G z2
      · exact PySem.W.mg_none_of X G z3
      · exact PySem.W.mg_none_of X G z4
      · exact PySem.W.mg_none_of X G z5
      · exact PySem.W.mg_none_of X G z6
      · exact PySem.W.mg_none_of X G z7
      · exact PySem.W.mg_none_of X G z8
      · exact PySem.W.mg_none_of X G z9
      · exact PySem.W.mg_none_of X G z10
      · exact PySem.W.mg_none_of X G z11
      · exact PySem.W.mg_none_of X G z12
      · exact PySem.W.mg_none_of X G z13
      · exact PySem.W.mg_none_of X G z14
  }
  exact def_P (M := ⟨l.prog, w, K, mg, base, 0⟩) (k := 6) (fun_mk (st := s_law) l14 c14 g14) sc_law m_law (law_hf T) T.hb
end K90

set_option Elab.async false
set_option linter.all false
set_option maxRecDepth 100000
set_option autoImplicit false
set_option maxHeartbeats 1600000
/-! K90m1: the plain model of twisting. -/
namespace K90
open PySem Fv
/-- the name at a place -/
def nat_ (names : List Int) (p : Int) : Int := names.getD p.toNat 0
def gg (x y n : Int) : Int := if n = max x y then min x y else n
def merge (names : List Int) (p : Int × Int) : List Int := names.map (gg (nat_ names p.1) (nat_ names p.2))
def ident (n : Nat) : List Int := (List.range n).map fun i => ((i : Nat) : Int)
def keeps (a b : Int) (p : Int × Int) : Bool := decide (p.1 ≠ a) && decide (p.1 ≠ b) && decide (p.2 ≠ a) && decide (p.2 ≠ b)
def namesOf (n : Nat) (ts : List (Int × Int)) (a b : Int) : List Int := (ts.filter (keeps a b)).foldl merge (ident n)
def others (n : Nat) (a b : Int) : List Int := (ident n).filter fun p => decide (p ≠ a) && decide (p ≠ b)
/-- the places of the piece of p -/
def clsOf (n : Nat) (names : List Int) (m : Int) : List Int := (ident n).filter fun p => decide (nat_ names p = m)
def least (n : Nat) (a b : Int) : Int := (others n a b).headD 0
def piece (n : Nat) (ts : List (Int × Int)) (a b : Int) : List Int := clsOf n (namesOf n ts a b) (least n a b)
def sw (a b x : Int) : Int := if x = a then b else if x = b then a else x
def twOne (pc : List Int) (a b : Int) (p : Int × Int) : Int × Int := if p.1 ∈ pc ∨ p.2 ∈ pc then (sw a b p.1, sw a b p.2) else p
def twist (n : Nat) (ts : List (Int × Int)) (a b : Int) : List (Int × Int) := ts.map (twOne (piece n ts a b) a b)
/-! ### facts -/
def InR (n : Nat) (p : Int) : Prop := 0 ≤ p ∧ p < n
def Ties (n : Nat) (ts : List (Int × Int)) : Prop := ∀ t ∈ ts, InR n t.1 ∧ InR n t.2
theorem nat_get {names : List Int} {p : Int} (h : InR names.length p) : names[p.toNat]? = some (nat_ names p) := by
  have lt : p.toNat < names.length := by have := h.1; have := h.2; omega
  unfold nat_
  rw [List.getD_eq_getElem?_getD, List.getElem?_eq_getElem lt]
  rfl
theorem nat_of {names : List Int} {p v : Int} (h : names[p.toNat]? = some v) : nat_ names p = v := by
  unfold nat_
  rw [List.getD_eq_getElem?_getD, h]
  rfl
theorem ident_len (n : Nat) : (ident n).length = n := by unfold ident; rw [List.length_map, List.length_range]
theorem ident_at {n : Nat} {p : Int} (h : InR n p) : nat_ (ident n) p = p := by
  have lt : p.toNat < n := by have := h.1; have := h.2; omega
  unfold nat_ ident
  rw [List.getD_eq_getElem?_getD, List.getElem?_map, List.getElem?_range lt]
  show ((p.toNat : Nat) : Int) = p
  have := h.1
  omega
theorem ident_mem {n : Nat} {p : Int} : p ∈ ident n ↔ InR n p := by
  unfold ident InR
  rw [List.mem_map]
  constructor
  · rintro ⟨i, hi, rfl⟩
    have := List.mem_range.mp hi
    omega
  · rintro ⟨h1, h2⟩
    exact ⟨p.toNat, List.mem_range.mpr (by omega), by omega⟩
theorem merge_len (names : List Int) (p : Int × Int) : (merge names p).length = names.length := by unfold merge; rw [List.length_map]
theorem merge_at {names : List Int} {q : Int × Int} {p : Int} (h : InR names.length p) : nat_ (merge names q) p = gg (nat_ names q.1) (nat_ names q.2) (nat_ names p) := by
  have e := nat_get h
  unfold merge
  have : ((names.map (gg (nat_ names q.1) (nat_ names q.2))))[p.toNat]? = some (gg (nat_ names q.1) (nat_ names q.2) (nat_ names p)) := by
    rw [List.getElem?_map, e]
    rfl
  exact nat_of this
/-- what the renaming keeps -/
structure Inv (n : Nat) (a b : Int) (names : List Int) : Prop where
  len : names.length = n
  lo : ∀ p, InR n p → 0 ≤ nat_ names p ∧ nat_ names p ≤ p
  fix : ∀ p, InR n p → nat_ names (nat_ names p) = nat_ names p
  isoA : ∀ p, InR n p → (nat_ names p = a ↔ p = a)
  isoB : ∀ p, InR n p → (nat_ names p = b ↔ p = b)
theorem Inv.inR {n : Nat} {a b : Int} {names : List Int} (I : Inv n a b names) {p : Int} (h : InR n p) : InR n (nat_ names p) := by
  have := I.lo p h
  have h1 := h.1
  have h2 := h.2
  exact ⟨by omega, by omega⟩
theorem inv_ident (n : Nat) (a b : Int) : Inv n a b (ident n) where
  len := ident_len n
  lo := fun p h => by rw [ident_at h]; exact ⟨h.1, by omega⟩
  fix := fun p h => by rw [ident_at h, ident_at h]
  isoA := fun p h => by rw [ident_at h]
  isoB := fun p h => by rw [ident_at h]
theorem gg_cases (x y n : Int) : (n = max x y ∧ gg x y n = min x y) ∨ (n ≠ max x y ∧ gg x y n = n) := by
  unfold gg
  by_cases h : n = max x y
  · exact .inl ⟨h, if_pos h⟩
  · exact .inr ⟨h, if_neg h⟩
theorem mm (x y : Int) : (max x y = x ∧ min x y = y ∧ y ≤ x) ∨ (max x y = y ∧ min x y = x ∧ x ≤ y) := by omega
theorem inv_merge {n : Nat} {a b : Int} {names : List Int} (I : Inv n a b names) {q : Int × Int} (h1 : InR n q.1) (h2 : InR n q.2) (k : keeps a b q = true) : Inv n a b (merge names q) := by
  obtain ⟨⟨⟨k1, k2⟩, k3⟩, k4⟩ : ((q.1 ≠ a ∧ q.1 ≠ b) ∧ q.2 ≠ a) ∧ q.2 ≠ b := by simpa [keeps] using k
  have atm : ∀ p, InR n p → nat_ (merge names q) p = gg (nat_ names q.1) (nat_ names q.2) (nat_ names p) := fun p hp => merge_at (by rw [I.len]; exact hp)
  have xa : nat_ names q.1 ≠ a := fun z => k1 ((I.isoA _ h1).mp z)
  have xb : nat_ names q.1 ≠ b := fun z => k2 ((I.isoB _ h1).mp z)
  have ya : nat_ names q.2 ≠ a := fun z => k3 ((I.isoA _ h2).mp z)
  have yb : nat_ names q.2 ≠ b := fun z => k4 ((I.isoB _ h2).mp z)
  have fx := I.fix _ h1
  have fy := I.fix _ h2
  have lx := I.lo _ h1
  have ly := I.lo _ h2
  have rx := I.inR h1
  have ry := I.inR h2
  revert xa xb ya yb fx fy lx ly rx ry
  generalize nat_ names q.1 = x at *
  generalize nat_ names q.2 = y at *
  intro xa xb ya yb fx fy lx ly rx ry
  have m := mm x y
  have iso : ∀ c, x ≠ c → y ≠ c → ∀ p, InR n p → (nat_ names p = c ↔ p = c) → (gg x y (nat_ names p) = c ↔ p = c) := fun c h3 h4 p hp e => by
    rcases gg_cases x y (nat_ names p) with ⟨e1, e2⟩ | ⟨e1, e2⟩
    · rw [e2]
      constructor
      · intro z; omega
      · intro z
        have := e.mpr z
        omega
    · rw [e2]; exact e
  refine ⟨by rw [merge_len]; exact I.len, fun p hp => ?_, fun p hp => ?_, fun p hp => ?_, fun p hp => ?_⟩
  · rw [atm p hp]
    have l := I.lo p hp
    rcases gg_cases x y (nat_ names p) with ⟨e1, e2⟩ | ⟨e1, e2⟩ <;> rw [e2] <;> omega
  · rw [atm p hp]
    have r := I.inR hp
    have f := I.fix p hp
    rcases gg_cases x y (nat_ names p) with ⟨e1, e2⟩ | ⟨e1, e2⟩
    · rw [e2]
      have rm : InR n (min x y) := by rcases m with ⟨_, e, _⟩ | ⟨_, e, _⟩ <;> rw [e] <;> assumption
      rw [atm _ rm]
      have fm : nat_ names (min x y) = min x y := by rcases m with ⟨_, e, _⟩ | ⟨_, e, _⟩ <;> rw [e] <;> assumption
      rw [fm]
      unfold gg
      split <;> rfl
    · rw [e2, atm _ r, f]
      unfold gg
      rw [if_neg e1]
  · rw [atm p hp]; exact iso a xa ya p hp (I.isoA p hp)
  · rw [atm p hp]; exact iso b xb yb p hp (I.isoB p hp)
theorem inv_fold {n : Nat} {a b : Int} : ∀ (ts : List (Int × Int)) {names : List Int}, Inv n a b names → (∀ t ∈ ts, (InR n t.1 ∧ InR n t.2) ∧ keeps a b t = true) → Inv n a b (ts.foldl merge names)
  | [], _, I, _ => I
  | t :: ts, _, I, h => inv_fold ts (inv_merge I (h t List.mem_cons_self).1.1 (h t List.mem_cons_self).1.2 (h t List.mem_cons_self).2) fun u hu => h u (List.mem_cons_of_mem _ hu)
theorem inv_names {n : Nat} {a b : Int} {ts : List (Int × Int)} (h : Ties n ts) : Inv n a b (namesOf n ts a b) :=
  inv_fold _ (inv_ident n a b) fun t ht => by
    obtain ⟨h1, h2⟩ := List.mem_filter.mp ht
    exact ⟨h t h1, h2⟩
/-- joined places have one name -/
theorem same_merge {n : Nat} {a b : Int} {names : List Int} (I : Inv n a b names) {q : Int × Int} (h1 : InR n q.1) (h2 : InR n q.2) {p r : Int} (hp : InR n p) (hr : InR n r) (e : nat_ names p = nat_ names r) : nat_ (merge names q) p = nat_ (merge names q) r := by
  rw [merge_at (by rw [I.len]; exact hp), merge_at (by rw [I.len]; exact hr), e]
theorem tie_merge {n : Nat} {a b : Int} {names : List Int} (I : Inv n a b names) {q : Int × Int} (h1 : InR n q.1) (h2 : InR n q.2) : nat_ (merge names q) q.1 = nat_ (merge names q) q.2 := by
  rw [merge_at (by rw [I.len]; exact h1), merge_at (by rw [I.len]; exact h2)]
  unfold gg
  have := mm (nat_ names q.1) (nat_ names q.2)
  split <;> split <;> omega
theorem tie_fold {n : Nat} {a b : Int} : ∀ (ts : List (Int × Int)) {names : List Int}, Inv n a b names → (∀ t ∈ ts, (InR n t.1 ∧ InR n t.2) ∧ keeps a b t = true) →
    (∀ p r, InR n p → InR n r → nat_ names p = nat_ names r → nat_ (ts.foldl merge names) p = nat_ (ts.foldl merge names) r) ∧ ∀ t ∈ ts, nat_ (ts.foldl merge names) t.1 = nat_ (ts.foldl merge names) t.2
  | [], _, I, _ => ⟨fun p r _ _ e => e, fun t ht => by cases ht⟩
  | q :: ts, _, I, h => by
    have hq := h q List.mem_cons_self
    obtain ⟨k1, k2⟩ := tie_fold ts (inv_merge I hq.1.1 hq.1.2 hq.2) fun u hu => h u (List.mem_cons_of_mem _ hu)
    refine ⟨fun p r hp hr e => k1 p r hp hr (same_merge I hq.1.1 hq.1.2 hp hr e), fun t ht => ?_⟩
    rcases List.mem_cons.mp ht with e | e
    · subst e
      exact k1 _ _ hq.1.1 hq.1.2 (tie_merge I hq.1.1 hq.1.2)
    · exact k2 t e
/-! ### the piece -/
theorem others_mem {n : Nat} {a b x : Int} : x ∈ others n a b ↔ InR n x ∧ x ≠ a ∧ x ≠ b := by
  unfold others
  rw [List.mem_filter, ident_mem]
  simp
theorem ident_up (n : Nat) : (ident n).Pairwise (· < ·) := by
  unfold ident
  rw [List.pairwise_map]
  exact List.pairwise_lt_range.imp fun h => by omega
theorem others_up (n : Nat) (a b : Int) : (others n a b).Pairwise (· < ·) := (ident_up n).filter _
theorem least_of {n : Nat} {a b : Int} (h : others n a b ≠ []) : least n a b ∈ others n a b ∧ ∀ x ∈ others n a b, least n a b ≤ x := by
  have up := others_up n a b
  unfold least
  revert h up
  generalize others n a b = l
  intro h up
  cases l with
  | nil => exact absurd rfl h
  | cons y r =>
    refine ⟨List.mem_cons_self, fun x hx => ?_⟩
    rcases List.mem_cons.mp hx with e | e
    · subst e; exact Int.le_refl _
    · exact Int.le_of_lt ((List.pairwise_cons.mp up).1 x e)
section
variable {n : Nat} {a b : Int} {ts : List (Int × Int)}
theorem name_other (h : Ties n ts) {x : Int} (hx : x ∈ others n a b) : nat_ (namesOf n ts a b) x ∈ others n a b := by
  have I := inv_names (a := a) (b := b) h
  obtain ⟨r, na, nb⟩ := others_mem.mp hx
  exact others_mem.mpr ⟨I.inR r, fun z => na ((I.isoA x r).mp z), fun z => nb ((I.isoB x r).mp z)⟩
theorem least_name (h : Ties n ts) (ho : others n a b ≠ []) : nat_ (namesOf n ts a b) (least n a b) = least n a b := by
  have I := inv_names (a := a) (b := b) h
  obtain ⟨m, le⟩ := least_of ho
  have h1 := le _ (name_other h m)
  have h2 := (I.lo _ (others_mem.mp m).1).2
  omega
theorem least_le (h : Ties n ts) (ho : others n a b ≠ []) {x : Int} (hx : x ∈ others n a b) : least n a b ≤ nat_ (namesOf n ts a b) x := (least_of ho).2 _ (name_other h hx)
theorem piece_mem {x : Int} : x ∈ piece n ts a b ↔ InR n x ∧ nat_ (namesOf n ts a b) x = least n a b := by
  unfold piece clsOf
  rw [List.mem_filter, ident_mem]
  simp
theorem piece_other (h : Ties n ts) (ho : others n a b ≠ []) {x : Int} (hx : x ∈ piece n ts a b) : x ∈ others n a b := by
  have I := inv_names (a := a) (b := b) h
  obtain ⟨r, e⟩ := piece_mem.mp hx
  obtain ⟨_, na, nb⟩ := others_mem.mp (least_of ho).1
  refine others_mem.mpr ⟨r, fun z => ?_, fun z => ?_⟩
  · rw [(I.isoA x r).mpr z] at e; exact na e.symm
  · rw [(I.isoB x r).mpr z] at e; exact nb e.symm
/-- the piece among the others alone -/
theorem piece_eq (h : Ties n ts) (ho : others n a b ≠ []) : (others n a b).filter (fun p => decide (nat_ (namesOf n ts a b) p = least n a b)) = piece n ts a b := by
  unfold piece clsOf others
  rw [List.filter_filter]
  refine List.filter_congr fun x hx => ?_
  by_cases e : nat_ (namesOf n ts a b) x = least n a b
  · have m := others_mem.mp (piece_other h ho (piece_mem.mpr ⟨ident_mem.mp hx, e⟩))
    simp [e, m.2.1, m.2.2]
  · simp [e]
/-! ### exchanged -/
theorem keeps_sym (a b : Int) (t : Int × Int) : keeps a b t = keeps b a t := by
  unfold keeps
  cases decide (t.1 ≠ a) <;> cases decide (t.1 ≠ b) <;> cases decide (t.2 ≠ a) <;> cases decide (t.2 ≠ b) <;> rfl
theorem piece_sym : piece n ts a b = piece n ts b a := by
  have e1 : namesOf n ts a b = namesOf n ts b a := by
    unfold namesOf
    rw [show keeps a b = keeps b a from funext (keeps_sym a b)]
  have e2 : others n a b = others n b a := by
    unfold others
    refine List.filter_congr fun x _ => ?_
    rw [Bool.and_comm]
  unfold piece least
  rw [e1, e2]
theorem sw_sym (a b x : Int) : sw a b x = sw b a x := by
  unfold sw
  by_cases h1 : x = a <;> by_cases h2 : x = b <;> simp [h1, h2] <;> omega
theorem twist_sym : twist n ts b a = twist n ts a b := by
  unfold twist
  rw [piece_sym (a := b) (b := a)]
  refine List.map_congr_left fun t _ => ?_
  unfold twOne
  rw [sw_sym b a, sw_sym b a]
/-! ### twice -/
theorem sw_sw (a b x : Int) : sw a b (sw a b x) = x := by
  unfold sw
  by_cases h1 : x = a
  · by_cases h2 : a = b <;> simp [h1, h2]
  · by_cases h2 : x = b
    · by_cases h3 : b = a <;> simp [h1, h2, h3]
    · simp [h1, h2]
theorem sw_in (h : Ties n ts) (ho : others n a b ≠ []) (x : Int) : sw a b x ∈ piece n ts a b ↔ x ∈ piece n ts a b := by
  have na : a ∉ piece n ts a b := fun z => (others_mem.mp (piece_other h ho z)).2.1 rfl
  have nb : b ∉ piece n ts a b := fun z => (others_mem.mp (piece_other h ho z)).2.2 rfl
  unfold sw
  by_cases h1 : x = a
  · rw [if_pos h1, h1]
    exact ⟨fun z => absurd z nb, fun z => absurd z na⟩
  · rw [if_neg h1]
    by_cases h2 : x = b
    · rw [if_pos h2, h2]
      exact ⟨fun z => absurd z na, fun z => absurd z nb⟩
    · rw [if_neg h2]
theorem tw_tw (h : Ties n ts) (ho : others n a b ≠ []) (t : Int × Int) : twOne (piece n ts a b) a b (twOne (piece n ts a b) a b t) = t := by
  unfold twOne
  by_cases c : t.1 ∈ piece n ts a b ∨ t.2 ∈ piece n ts a b
  · rw [if_pos c]
    rw [if_pos (by
      show sw a b t.1 ∈ _ ∨ sw a b t.2 ∈ _
      rw [sw_in h ho, sw_in h ho]
      exact c)]
    show (sw a b (sw a b t.1), sw a b (sw a b t.2)) = t
    rw [sw_sw, sw_sw]
  · rw [if_neg c, if_neg c]
theorem sw_ne {a b x : Int} : (sw a b x ≠ a ∧ sw a b x ≠ b) ↔ (x ≠ a ∧ x ≠ b) := by
  unfold sw
  by_cases h1 : x = a
  · simp [h1]
  · by_cases h2 : x = b <;> simp [h1, h2]
theorem keeps_tw (pc : List Int) (t : Int × Int) : keeps a b (twOne pc a b t) = keeps a b t := by
  unfold twOne
  split
  · have e1 := sw_ne (a := a) (b := b) (x := t.1)
    have e2 := sw_ne (a := a) (b := b) (x := t.2)
    unfold keeps
    rw [Bool.eq_iff_iff]
    simp only [Bool.and_eq_true, decide_eq_true_eq, and_assoc]
    constructor
    · rintro ⟨p, q, r, s⟩
      exact ⟨(e1.mp ⟨p, q⟩).1, (e1.mp ⟨p, q⟩).2, e2.mp ⟨r, s⟩⟩
    · rintro ⟨p, q, r, s⟩
      exact ⟨(e1.mpr ⟨p, q⟩).1, (e1.mpr ⟨p, q⟩).2, e2.mpr ⟨r, s⟩⟩
  · rfl
theorem keeps_id {pc : List Int} {t : Int × Int} (k : keeps a b t = true) : twOne pc a b t = t := by
  obtain ⟨⟨⟨k1, k2⟩, k3⟩, k4⟩ : ((t.1 ≠ a ∧ t.1 ≠ b) ∧ t.2 ≠ a) ∧ t.2 ≠ b := by simpa [keeps] using k
  unfold twOne sw
  split
  · simp [k1, k2, k3, k4]
  · rfl
theorem filter_tw : (twist n ts a b).filter (keeps a b) = ts.filter (keeps a b) := by
  unfold twist
  rw [List.filter_map]
  have e : (keeps a b ∘ twOne (piece n ts a b) a b) = keeps a b := funext fun t => keeps_tw _ t
  rw [e]
  refine (List.map_congr_left fun t ht => keeps_id (List.mem_filter.mp ht).2).trans (List.map_id _)
theorem piece_tw : piece n (twist n ts a b) a b = piece n ts a b := by
  unfold piece namesOf
  rw [filter_tw]
theorem twist_twist (h : Ties n ts) (ho : others n a b ≠ []) : twist n (twist n ts a b) a b = ts := by
  have e : twist n (twist n ts a b) a b = (twist n ts a b).map (twOne (piece n ts a b) a b) := by
    show (twist n ts a b).map (twOne (piece n (twist n ts a b) a b) a b) = _
    rw [piece_tw]
  rw [e]
  unfold twist
  rw [List.map_map]
  exact (List.map_congr_left fun t _ => tw_tw h ho t).trans (List.map_id _)
theorem sw_inR {x : Int} (ha : InR n a) (hb : InR n b) (hx : InR n x) : InR n (sw a b x) := by
  unfold sw
  split
  · exact hb
  · split
    · exact ha
    · exact hx
theorem twist_ties (h : Ties n ts) (ha : InR n a) (hb : InR n b) : Ties n (twist n ts a b) := fun t ht => by
  unfold twist at ht
  obtain ⟨u, hu, e⟩ := List.mem_map.mp ht
  subst e
  unfold twOne
  split
  · exact ⟨sw_inR ha hb (h u hu).1, sw_inR ha hb (h u hu).2⟩
  · exact h u hu
/-- a tie between the two stays -/
theorem stays (h : Ties n ts) (ho : others n a b ≠ []) {t : Int × Int} (h1 : t.1 = a ∨ t.1 = b) (h2 : t.2 = a ∨ t.2 = b) : twOne (piece n ts a b) a b t = t := by
  have na : a ∉ piece n ts a b := fun z => (others_mem.mp (piece_other h ho z)).2.1 rfl
  have nb : b ∉ piece n ts a b := fun z => (others_mem.mp (piece_other h ho z)).2.2 rfl
  unfold twOne
  rw [if_neg]
  rintro (z | z)
  · rcases h1 with e | e <;> rw [e] at z
    · exact na z
    · exact nb z
  · rcases h2 with e | e <;> rw [e] at z
    · exact na z
    · exact nb z
end
end K90

set_option Elab.async false
set_option linter.all false
set_option maxRecDepth 100000
set_option autoImplicit false
set_option maxHeartbeats 1600000
/-! K90m2: what the defs answer. -/
namespace K90
open PySem L2 Fv
theorem draws_eq : f__law_draws = fDraws := rfl
theorem cell_eq : f__law_cell = fCell := rfl
theorem f_nil : lenOk ([] : List D) = some [] := rfl
theorem app_int {acc : List Int} {v : Int} (h : acc.length < 100000) : appL (acc.map .int) (.int v) = some ((acc ++ [v]).map .int) := by
  rw [Fv.app_ok (small_lt (by rw [List.length_map]; omega)), List.map_append]
  rfl
theorem app_pair {acc : List (Int × Int)} {v : Int × Int} (h : acc.length < 100000) : appL (acc.map pairD) (pairD v) = some ((acc ++ [v]).map pairD) := by
  rw [Fv.app_ok (small_lt (by rw [List.length_map]; omega)), List.map_append]
  rfl
theorem e_renamed {names : List Int} (hl : names.length < 100000) (x y : Int) : f_renamed [.list (names.map .int), .int x, .int y] = some ((names.map (gg x y)).map .int) := by
  obtain ⟨ρ', e, acc, l, rfl, ha⟩ := for_inv1 (as := asT (.nm 6)) (body := evSs L_renamed_0) (fun i ρ => ∃ (acc : List Int) (l : Cell), ρ = [.fz (.list (names.map .int)), .fz (.int x), .fz (.int y), .fz (.int (min x y)), .fz (.int (max x y)), .ol (acc.map .int), l] ∧ acc = (names.take i).map (gg x y))
    (names.map .int) [.fz (.list (names.map .int)), .fz (.int x), .fz (.int y), .fz (.int (min x y)), .fz (.int (max x y)), .ol [], .un] ⟨[], .un, rfl, rfl⟩ (by
      rintro i d ρ hd ⟨acc, l, rfl, ha⟩
      rw [List.getElem?_map] at hd
      obtain ⟨v, hv, rfl⟩ := map_some' hd
      have hal : acc.length < 100000 := by rw [ha]; simp; omega
      refine ⟨[.fz (.list (names.map .int)), .fz (.int x), .fz (.int y), .fz (.int (min x y)), .fz (.int (max x y)), .ol ((acc ++ [gg x y v]).map .int), .fz (.int v)], ?_, _, _, rfl, by rw [take_snoc hv, List.map_append, ha]; rfl⟩
      rcases gg_cases x y v with ⟨z, e⟩ | ⟨z, e⟩ <;> rw [e]
      · have e5 := app_int (v := min x y) hal
        simp [L_renamed_0, z, e5]
      · have e5 := app_int (v := v) hal
        simp [L_renamed_0, z, e5])
  rw [List.length_map, List.take_length] at ha
  have es : evS S_renamed_0 [.fz (.list (names.map .int)), .fz (.int x), .fz (.int y), .fz (.int (min x y)), .fz (.int (max x y)), .ol [], .un] = some (.next [.fz (.list (names.map .int)), .fz (.int x), .fz (.int y), .fz (.int (min x y)), .fz (.int (max x y)), .ol (acc.map .int), l]) := by
    unfold S_renamed_0
    simp
    exact e
  rw [← ha]
  unfold f_renamed runF
  simp [b_renamed, start0, f_nil, es, outF]
theorem e_other {x a b : Int} : f_other_end [.int x, .int a, .int b] = some (.int (sw a b x)) := by
  unfold f_other_end runD sw
  by_cases h1 : x = a
  · subst h1
    simp [b_other_end, start0, outD]
  · by_cases h2 : x = b
    · subst h2
      simp [b_other_end, start0, h1, outD]
    · simp [b_other_end, start0, h1, h2, outD]
theorem at_names {names : List Int} {p : Int} (h : InR names.length p) : atI (names.map PyData.int) p = some (.int (nat_ names p)) := by
  refine at_nat h.1 ?_
  rw [List.getElem?_map, nat_get h]
  rfl
/-! ### joined_lists -/
/-- the names after some ties -/
theorem e_join_names {n : Nat} {ts : List (Int × Int)} (hn : n < 1000) (h : Ties n ts) {a b c : Cell} : ∃ (x y : Cell), evS S_joined_lists_0 [.fz (.int n), .fz (.list (ts.map pairD)), .fz (.list ((ident n).map .int)), .un, .un, a, b, c] = some (.next [.fz (.int n), .fz (.list (ts.map pairD)), .fz (.list ((ts.foldl merge (ident n)).map .int)), x, y, a, b, c]) := by
  obtain ⟨ρ', e, x, y, names, rfl, hm, hl⟩ := for_inv1 (as := asT (.tup [3, 4])) (body := evSs L_joined_lists_0) (fun i ρ => ∃ (x y : Cell) (names : List Int), ρ = [.fz (.int n), .fz (.list (ts.map pairD)), .fz (.list (names.map .int)), x, y, a, b, c] ∧ names = (ts.take i).foldl merge (ident n) ∧ names.length = n)
    (ts.map pairD) [.fz (.int n), .fz (.list (ts.map pairD)), .fz (.list ((ident n).map .int)), .un, .un, a, b, c] ⟨.un, .un, ident n, rfl, rfl, ident_len n⟩ (by
      rintro i d ρ hd ⟨x, y, names, rfl, hm, hl⟩
      rw [List.getElem?_map] at hd
      obtain ⟨⟨p, q⟩, hv, rfl⟩ := map_some' hd
      obtain ⟨r1, r2⟩ := h _ (List.mem_of_getElem? hv)
      refine ⟨[.fz (.int n), .fz (.list (ts.map pairD)), .fz (.list ((merge names (p, q)).map .int)), .fz (.int p), .fz (.int q), a, b, c], ?_, _, _, merge names (p, q), rfl, ?_, by rw [merge_len]; exact hl⟩
      · have e1 := at_names (names := names) (p := p) (by rw [hl]; exact r1)
        have e2 := at_names (names := names) (p := q) (by rw [hl]; exact r2)
        have e3 := e_renamed (names := names) (by omega) (nat_ names p) (nat_ names q)
        have e4 : evE (.callF "renamed" f_renamed (.cons (.var 2) (.cons (.ix (.var 2) (.var 3)) (.cons (.ix (.var 2) (.var 4)) .nil)))) [.fz (.int n), .fz (.list (ts.map pairD)), .fz (.list (names.map .int)), .fz (.int p), .fz (.int q), a, b, c] = some (.list ((merge names (p, q)).map .int)) :=
          (callF_is (by simp only [evA_cons, evA_nil, evE_ix, evE_var, cellD_zero, cellD_succ, bind2_some, ixD_list, e1, e2]) e3).1
        simp only [L_joined_lists_0, asT_tup, setAll_cons, setAll_nil, List.set_cons_succ, List.set_cons_zero, Option.bind_some, evSs_cons, evS_asg, e4, Option.map_some, nx_some, seqO_next, evSs_nil]
      · rw [take_snoc hv, List.foldl_append, ← hm]
        rfl)
  rw [List.length_map, List.take_length] at hm
  refine ⟨x, y, ?_⟩
  rw [← hm]
  unfold S_joined_lists_0
  simp [-List.map_map]
  exact e
/-- the classes that the dict holds after i places -/
def Grp (names : List Int) (i : Nat) (cs : List (Int × List Int)) : Prop :=
  (cs.map (·.1)).Nodup ∧ (∀ c ∈ cs, c.2 = ((ident i).filter fun p => decide (nat_ names p = c.1)) ∧ c.2 ≠ []) ∧ ∀ p, InR i p → nat_ names p ∈ cs.map (·.1)
def grpKv (cs : List (Int × List Int)) : List (Key × D) := cs.map fun c => (.inl c.1, .list (c.2.map .int))
theorem ident_succ (i : Nat) : ident (i + 1) = ident i ++ [(i : Int)] := by
  unfold ident
  rw [List.range_succ, List.map_append]
  rfl
/-- a place is put to its class -/
def putC (cs : List (Int × List Int)) (m p : Int) : List (Int × List Int) := if m ∈ cs.map (·.1) then cs.map (fun c => if c.1 = m then (c.1, c.2 ++ [p]) else c) else cs ++ [(m, [p])]
theorem putC_keys (cs : List (Int × List Int)) (m p : Int) : (putC cs m p).map (·.1) = if m ∈ cs.map (·.1) then cs.map (·.1) else cs.map (·.1) ++ [m] := by
  unfold putC
  split
  · rw [List.map_map]
    refine List.map_congr_left fun c _ => ?_
    show (if c.1 = m then (c.1, c.2 ++ [p]) else c).1 = c.1
    split <;> rfl
  · rw [List.map_append]
    rfl
theorem grp_put {names : List Int} {i : Nat} {cs : List (Int × List Int)} (h : Grp names i cs) : Grp names (i + 1) (putC cs (nat_ names i) i) := by
  obtain ⟨h1, h2, h3⟩ := h
  refine ⟨?_, fun c hc => ?_, fun p hp => ?_⟩
  · rw [putC_keys]
    split
    · exact h1
    · rename_i hm
      rw [List.nodup_append]
      exact ⟨h1, by simp, fun x hx y hy => by
        rw [List.mem_singleton] at hy
        subst hy
        intro z
        subst z
        exact hm hx⟩
  · rw [ident_succ, List.filter_append]
    unfold putC at hc
    split at hc
    · obtain ⟨c', hc', rfl⟩ := List.mem_map.mp hc
      obtain ⟨e1, e2⟩ := h2 c' hc'
      by_cases z : c'.1 = nat_ names i
      · rw [if_pos z]
        refine ⟨?_, by simp⟩
        show c'.2 ++ [(i : Int)] = _
        rw [← e1, z]
        simp
      · rw [if_neg z]
        refine ⟨?_, e2⟩
        rw [← e1]
        have : ¬ nat_ names (i : Int) = c'.1 := fun w => z w.symm
        simp [this]
    · rename_i hm
      rcases List.mem_append.mp hc with e | e
      · obtain ⟨e1, e2⟩ := h2 c e
        have : ¬ nat_ names (i : Int) = c.1 := fun w => hm (List.mem_map.mpr ⟨c, e, w.symm⟩)
        refine ⟨?_, e2⟩
        rw [← e1]
        simp [this]
      · rw [List.mem_singleton] at e
        subst e
        refine ⟨?_, by simp⟩
        have : (ident i).filter (fun p => decide (nat_ names p = nat_ names (i : Int))) = [] := by
          rw [List.filter_eq_nil_iff]
          intro p hp
          have := h3 p (ident_mem.mp hp)
          intro z
          rw [of_decide_eq_true z] at this
          exact hm this
        show [(i : Int)] = _
        rw [this]
        simp
  · rw [putC_keys]
    by_cases z : p = i
    · subst z
      split
      · assumption
      · simp
    · have := h3 p ⟨hp.1, by have := hp.2; omega⟩
      split
      · exact this
      · exact List.mem_append_left _ this
def oldOf (cs : List (Int × List Int)) (m : Int) : List Int := ((cs.find? fun c => decide (c.1 = m)).map (·.2)).getD []
theorem val_grp (m : Int) : ∀ cs : List (Int × List Int), valD (grpKv cs) (.inl m) = (cs.find? fun c => decide (c.1 = m)).map fun c => .list (c.2.map .int)
  | [] => rfl
  | c :: cs => by
    unfold valD grpKv
    rw [List.map_cons, List.find?_cons, List.find?_cons]
    by_cases h : c.1 = m
    · simp [h]
    · have h' : ¬ (Sum.inl c.1 : Key) = .inl m := fun z => h (Sum.inl.inj z)
      simp only [h, h', decide_false]
      exact val_grp m cs
theorem old_of : ∀ {cs : List (Int × List Int)} {m : Int} {c : Int × List Int}, (cs.map (·.1)).Nodup → c ∈ cs → c.1 = m → oldOf cs m = c.2
  | d :: cs, m, c, nd, hc, e => by
    rw [List.map_cons, List.nodup_cons] at nd
    unfold oldOf
    rw [List.find?_cons]
    rcases List.mem_cons.mp hc with z | z
    · subst z
      simp [e]
    · have : d.1 ≠ m := fun w => nd.1 (List.mem_map.mpr ⟨c, z, by rw [e, w]⟩)
      simp only [this, decide_false]
      exact old_of nd.2 z e
theorem any_grp (m : Int) (cs : List (Int × List Int)) : ((grpKv cs).any fun kv => decide (kv.1 = (.inl m : Key))) = decide (m ∈ cs.map (·.1)) := by
  unfold grpKv
  rw [List.any_map]
  induction cs with
  | nil => simp
  | cons c cs ih =>
    rw [List.any_cons, ih, List.map_cons]
    by_cases h : c.1 = m
    · simp [Function.comp, h]
    · have h' : ¬ m = c.1 := fun z => h z.symm
      simp [Function.comp, h, h']
theorem put_grp {cs : List (Int × List Int)} {m p : Int} (nd : (cs.map (·.1)).Nodup) : putD (grpKv cs) (.inl m) (.list ((oldOf cs m ++ [p]).map .int)) = grpKv (putC cs m p) := by
  unfold putD putC
  rw [any_grp]
  by_cases h : m ∈ cs.map (·.1)
  · rw [if_pos (decide_eq_true h), if_pos h]
    unfold grpKv
    rw [List.map_map, List.map_map]
    refine List.map_congr_left fun c hc => ?_
    by_cases z : c.1 = m
    · have o := old_of nd hc z
      simp [Function.comp, z, o]
    · simp [Function.comp, z]
  · rw [if_neg (by simpa using h), if_neg h]
    have o : oldOf cs m = [] := by
      unfold oldOf
      rw [List.find?_eq_none.mpr]
      · rfl
      · intro c hc z
        exact h (List.mem_map.mpr ⟨c, hc, of_decide_eq_true z⟩)
    rw [o]
    unfold grpKv
    rw [List.map_append (l₁ := cs)]
    rfl
theorem putC_len (cs : List (Int × List Int)) (m p : Int) : (putC cs m p).length ≤ cs.length + 1 := by
  unfold putC
  split
  · rw [List.length_map]; omega
  · rw [List.length_append]; simp
theorem filter_len (i : Nat) (q : Int → Bool) : ((ident i).filter q).length ≤ i := by
  have := List.length_filter_le q (ident i)
  rw [ident_len] at this
  exact this
theorem old_len {names : List Int} {i : Nat} {cs : List (Int × List Int)} (h : Grp names i cs) (m : Int) : (oldOf cs m).length ≤ i := by
  unfold oldOf
  cases e : cs.find? fun c => decide (c.1 = m) with
  | none => simp
  | some c =>
    have := (h.2.1 c (List.mem_of_find?_eq_some e)).1
    show c.2.length ≤ i
    rw [this]
    exact filter_len _ _
theorem bop_cat {xs ys : List Int} (h : xs.length + ys.length < 100000) : bopD .add (.list (xs.map .int)) (.list (ys.map .int)) = some (.list ((xs ++ ys).map .int)) := by
  have e : (xs.map PyData.int).length + (ys.map PyData.int).length ≤ sizeLine := small_le (by simp; omega)
  show (bopF .add (.list (xs.map .int)) (.list (ys.map .int))).map PyData.list = _
  rw [show bopF .add (.list (xs.map .int)) (.list (ys.map .int)) = some (xs.map PyData.int ++ ys.map PyData.int) from if_pos e, List.map_append]
  rfl
theorem len_ok {ds : List D} (h : ds.length < 1000000) : lenOk ds = some ds := if_pos (small_le h)
theorem grp_nil {names : List Int} : Grp names 0 [] := ⟨List.nodup_nil, fun c hc => (List.not_mem_nil hc).elim, fun p hp => absurd hp.2 (by have := hp.1; omega)⟩
theorem look_grp (cs : List (Int × List Int)) (m : Int) : lookO (.ok (grpKv cs)) (.int m) = some ((cs.find? fun c => decide (c.1 = m)).map fun c => .list (c.2.map .int)) := by
  rw [← val_grp]
  rfl
theorem old_grp (cs : List (Int × List Int)) (m : Int) : (((cs.find? fun c => decide (c.1 = m)).map fun c : Int × List Int => PyData.list (c.2.map .int)).getD (.list [])) = .list ((oldOf cs m).map .int) := by
  unfold oldOf
  cases cs.find? fun c => decide (c.1 = m) <;> rfl
theorem putO_k {kvs : List (Key × D)} {m : Int} {e : D} (h : kvs.length < 1000000) : putO (.ok kvs) (.int m) e = some (.ok (putD kvs (.inl m) e)) := by
  have h2 : kvs.length < sizeLine := small_lt h
  unfold putO Fv.keyOf
  simp only [Option.bind_some]
  rw [if_pos h2]
theorem join_turn {n : Nat} {names : List Int} (hn : n < 1000) (hl : names.length = n) {a x y z : Cell} {cs : List (Int × List Int)} {i : Nat} (hi : i < n) (hg : Grp names i cs) (hc : cs.length ≤ i) :
    evSs L_joined_lists_1 [.fz (.int n), a, .fz (.list (names.map .int)), x, y, .ok (grpKv cs), .fz (.int i), z] = some (.next [.fz (.int n), a, .fz (.list (names.map .int)), x, y, .ok (grpKv (putC cs (nat_ names i) i)), .fz (.int i), z]) := by
  have e1 := at_names (names := names) (p := i) ⟨by omega, by omega⟩
  have e4 : bopD .add (.list ((oldOf cs (nat_ names i)).map .int)) (.list ([(i : Int)].map .int)) = some (.list ((oldOf cs (nat_ names i) ++ [(i : Int)]).map .int)) := bop_cat (by have := old_len hg (nat_ names i); simp; omega)
  have e5 : putO (.ok (grpKv cs)) (.int (nat_ names i)) (.list ((oldOf cs (nat_ names i) ++ [(i : Int)]).map .int)) = some (.ok (grpKv (putC cs (nat_ names i) i))) := by
    rw [putO_k (by unfold grpKv; rw [List.length_map]; omega), put_grp hg.1]
  have e6 : lenOk [PyData.int (i : Int)] = some ([(i : Int)].map .int) := len_ok (by simp)
  have e7 := look_grp cs (nat_ names i)
  have e8 := old_grp cs (nat_ names i)
  have key : evE (.ix (.var 2) (.var 6)) [.fz (.int n), a, .fz (.list (names.map .int)), x, y, .ok (grpKv cs), .fz (.int i), z] = some (.int (nat_ names i)) := by
    simp only [evE_ix, evE_var, cellD_zero, cellD_succ, bind2_some, ixD_list, e1]
  have one : evE (.lst (.cons (.var 6) .nil)) [.fz (.int n), a, .fz (.list (names.map .int)), x, y, .ok (grpKv cs), .fz (.int i), z] = some (.list ([(i : Int)].map .int)) := by
    simp only [evE_lst, evA_cons, evA_nil, evE_var, cellD_zero, cellD_succ, bind2_some, Option.bind_some, e6, Option.map_some]
  have emp : evE (.lst .nil) [.fz (.int n), a, .fz (.list (names.map .int)), x, y, .ok (grpKv cs), .fz (.int i), z] = some (.list []) := by
    simp only [evE_lst, evA_nil, Option.bind_some, f_nil, Option.map_some]
  have get : evE (.dget 5 (.ix (.var 2) (.var 6)) (.lst .nil)) [.fz (.int n), a, .fz (.list (names.map .int)), x, y, .ok (grpKv cs), .fz (.int i), z] = some (.list ((oldOf cs (nat_ names i)).map .int)) := by
    rw [evE_dget, key, emp]
    simp only [List.getElem?_cons_succ, List.getElem?_cons_zero, bind3_some, e7, Option.map_some, e8]
  unfold L_joined_lists_1
  rw [evSs_cons, evS_put, evE_bin, key, get, one, bind2_some, e4]
  simp only [List.getElem?_cons_succ, List.getElem?_cons_zero, bind3_some, e5, Option.map_some, nx_some, seqO_next, evSs_nil, List.set_cons_succ, List.set_cons_zero]
theorem ident_get {n i : Nat} {d : D} (hd : ((ident n).map PyData.int)[i]? = some d) : i < n ∧ d = .int (i : Int) := by
  have hi : i < n := by
    have := (List.getElem?_eq_some_iff.mp hd).1
    rw [List.length_map, ident_len] at this
    exact this
  unfold ident at hd
  rw [List.getElem?_map, List.getElem?_map, List.getElem?_range hi] at hd
  exact ⟨hi, (Option.some.inj hd).symm⟩
theorem e_join_dict {n : Nat} {names : List Int} (hn : n < 1000) (hl : names.length = n) {a x y : Cell} : ∃ (cs : List (Int × List Int)) (z : Cell), evS S_joined_lists_1 [.fz (.int n), a, .fz (.list (names.map .int)), x, y, .ok [], .un, .un] = some (.next [.fz (.int n), a, .fz (.list (names.map .int)), x, y, .ok (grpKv cs), z, .un]) ∧ Grp names n cs ∧ cs.length ≤ n := by
  obtain ⟨ρ', e, cs, z, rfl, hg, hc⟩ := for_inv1 (as := asT (.nm 6)) (body := evSs L_joined_lists_1) (fun i ρ => ∃ (cs : List (Int × List Int)) (z : Cell), ρ = [.fz (.int n), a, .fz (.list (names.map .int)), x, y, .ok (grpKv cs), z, .un] ∧ Grp names i cs ∧ cs.length ≤ i)
    ((ident n).map .int) [.fz (.int n), a, .fz (.list (names.map .int)), x, y, .ok [], .un, .un] ⟨[], .un, rfl, grp_nil, Nat.le_refl _⟩ (by
      rintro i d ρ hd ⟨cs, z, rfl, hg, hc⟩
      obtain ⟨hi, rfl⟩ := ident_get hd
      exact ⟨_, join_turn hn hl hi hg hc, _, _, rfl, grp_put hg, Nat.le_trans (putC_len _ _ _) (by omega)⟩)
  rw [List.length_map, ident_len] at hg hc
  refine ⟨cs, z, ?_, hg, hc⟩
  unfold S_joined_lists_1
  rw [evS_for_, r1_it (n := n) (by simp only [evE_var, viewE_cons, view_fz, cellD_zero]) (by omega), Option.bind_some]
  exact e
end K90

set_option Elab.async false
set_option linter.all false
set_option maxRecDepth 100000
set_option autoImplicit false
set_option maxHeartbeats 1600000
/-! K90m3: joined_lists, turned_piece, twisted. -/
namespace K90
open PySem L2 Fv
abbrev lstD (l : List Int) : D := .list (l.map .int)
theorem canAll_lsts : ∀ ls : List (List Int), PyData.canLayAll0 (ls.map lstD) = true
  | [] => rfl
  | l :: ls => by
    rw [List.map_cons]
    simp only [PyData.canLayAll0, PyData.canLay0, canAll_ints, Bool.true_and]
    exact canAll_lsts ls
theorem alike_ints : ∀ a b : List Int, PySem.W.alikeAll (a.map .int) (b.map .int) = true
  | [], _ => by simp [PySem.W.alikeAll]
  | _ :: _, [] => by simp [PySem.W.alikeAll]
  | x :: a, y :: b => by
    rw [List.map_cons, List.map_cons]
    unfold PySem.W.alikeAll
    rw [alike_ints a b]
    rfl
theorem sortOk_lsts {ls : List (List Int)} (h : ls.length < 1000000) : sortOk (ls.map lstD) = true := by
  unfold sortOk
  rw [Bool.and_eq_true, Bool.and_eq_true]
  refine ⟨⟨?_, ?_⟩, decide_eq_true (small_le (by rw [List.length_map]; exact h))⟩
  · rw [List.all_eq_true]
    intro d hd
    obtain ⟨a, _, rfl⟩ := List.mem_map.mp hd
    rw [Bool.and_eq_true]
    refine ⟨shaped_ints a, ?_⟩
    rw [List.all_eq_true]
    intro d hd
    obtain ⟨b, _, rfl⟩ := List.mem_map.mp hd
    show PySem.W.alike (.list (a.map .int)) (.list (b.map .int)) = true
    unfold PySem.W.alike
    exact alike_ints a b
  · rw [Bool.or_eq_true]
    right
    rw [List.all_eq_true]
    intro d hd
    obtain ⟨a, _, rfl⟩ := List.mem_map.mp hd
    rfl
/-- lists of ints in order -/
def srt (ls : List (List Int)) : List (List Int) := ls.mergeSort fun a b => leD (lstD a) (lstD b)
theorem sortF_lsts {ls : List (List Int)} (h : ls.length < 1000000) : sortF [.list (ls.map lstD)] = some ((srt ls).map lstD) := by
  show (if sortOk (ls.map lstD) = true then some ((ls.map lstD).mergeSort leD) else none) = _
  rw [if_pos (sortOk_lsts h)]
  unfold srt
  rw [map_sort lstD leD ls]
theorem srt_perm (ls : List (List Int)) : (srt ls).Perm ls := List.mergeSort_perm ls _
theorem srt_up (ls : List (List Int)) : (srt ls).Pairwise fun a b => leD (lstD a) (lstD b) = true :=
  List.pairwise_mergeSort (le := fun a b => leD (lstD a) (lstD b)) (fun a b c h1 h2 => leD_total.trans _ _ _ h1 h2) (fun a b => by
    rcases leD_total.total (lstD a) (lstD b) with h | h <;> simp [h]) ls
theorem dict_grp (cs : List (Int × List Int)) : dictK (grpKv cs) = .dict (cs.map fun c => (.int c.1, lstD c.2)) := by
  unfold dictK grpKv
  rw [List.map_map]
  rfl
/-- the frozen dict, read -/
theorem fix_grp {cs : List (Int × List Int)} (nd : (cs.map (·.1)).Nodup) {c : Int × List Int} (hc : c ∈ cs) : fixD (dictK (grpKv cs)) (.int c.1) = some (lstD c.2) := by
  have e : dictK (grpKv cs) = .dict (cs.map fun c => (.int c.1, lstD c.2)) := by
    unfold dictK grpKv
    rw [List.map_map]
    rfl
  rw [e]
  show lookF (cs.map fun c => (PyData.int c.1, lstD c.2)) (.int c.1) = _
  unfold lookF
  induction cs with
  | nil => cases hc
  | cons d cs ih =>
    rw [List.map_cons, List.nodup_cons] at nd
    rw [List.map_cons, List.find?_cons]
    have ek : keyB (.int d.1) (.int c.1) = (d.1 == c.1) := rfl
    rcases List.mem_cons.mp hc with z | z
    · subst z
      simp [ek]
    · have ne : (d.1 == c.1) = false := by
        refine beq_eq_false_iff_ne.mpr fun w => nd.1 (List.mem_map.mpr ⟨c, z, w.symm⟩)
      simp only [ek, ne]
      refine ih nd.2 z ?_
      unfold dictK grpKv
      rw [List.map_map]
      rfl
theorem keys_grp (cs : List (Int × List Int)) : keysF (dictK (grpKv cs)) = some (cs.map fun c => .int c.1) := by
  rw [dict_grp]
  show some ((cs.map fun c => (PyData.int c.1, lstD c.2)).map (·.1)) = _
  rw [List.map_map]
  rfl
theorem e_joined {n : Nat} {ts : List (Int × Int)} (hn : n < 1000) (h : Ties n ts) : ∃ cs : List (Int × List Int), Grp (ts.foldl merge (ident n)) n cs ∧ cs.length ≤ n ∧ f_joined_lists [.int n, .list (ts.map pairD)] = some ((srt (cs.map (·.2))).map lstD) := by
  obtain ⟨x, y, e1⟩ := e_join_names hn h (a := .un) (b := .un) (c := .un)
  have hl : (ts.foldl merge (ident n)).length = n := by
    have : ∀ (ts : List (Int × Int)) (ns : List Int), (ts.foldl merge ns).length = ns.length := fun ts => by
      induction ts with
      | nil => intro ns; rfl
      | cons t ts ih => intro ns; rw [List.foldl_cons, ih, merge_len]
    rw [this, ident_len]
  obtain ⟨cs, z, e2, hg, hc⟩ := e_join_dict hn hl (a := .fz (.list (ts.map pairD))) (x := x) (y := y)
  refine ⟨cs, hg, hc, ?_⟩
  have e0 : evE (.lrng (.r1 (.var 0))) [.fz (.int n), .fz (.list (ts.map pairD)), .un, .un, .un, .un, .un, .un] = some (.list ((ident n).map .int)) := (lrng_ok (n := n) (by simp only [evE_var, viewE_cons, view_fz, cellD_zero]) (by omega)).1
  have e3 : evE (.compK [7] (.nm 7) 5 .yes (.fix (.var 5) (.var 7))) [.fz (.int n), .fz (.list (ts.map pairD)), .fz (.list ((ts.foldl merge (ident n)).map .int)), x, y, .fz (dictK (grpKv cs)), z, .un] = some (.list ((cs.map (·.2)).map lstD)) := by
    rw [evE_compK]
    simp only [cellD_zero, cellD_succ, Option.bind_some, keys_grp]
    rw [len_ok (by rw [List.length_map]; omega), Option.bind_some]
    rw [comp_all (h := fun c : Int × List Int => lstD c.2) cs fun c hc => ?_]
    · rw [List.map_map]
      rfl
    · simp only [asT_nm, wipeE_cons, wipeE_nil, List.set_cons_succ, List.set_cons_zero, Option.bind_some, evC_yes, cond_true, evE_fix, evE_var, cellD_zero, cellD_succ, bind2_some, fix_grp hg.1 hc, Option.map_some]
  have st : start0 8 [.int n, .list (ts.map pairD)] = [.fz (.int n), .fz (.list (ts.map pairD)), .un, .un, .un, .un, .un, .un] := rfl
  unfold f_joined_lists
  rw [runF_2, st]
  unfold b_joined_lists
  rw [evSs_cons, evS_asg, e0, Option.map_some, nx_some, seqO_next]
  simp only [List.set_cons_succ, List.set_cons_zero]
  rw [evSs_cons, e1, seqO_next, evSs_cons, evS_newK, nx_some, seqO_next]
  simp only [List.set_cons_succ, List.set_cons_zero]
  rw [evSs_cons, e2, seqO_next, evSs_cons]
  rw [show evS (.frz 5) [.fz (.int n), .fz (.list (ts.map pairD)), .fz (.list ((ts.foldl merge (ident n)).map .int)), x, y, .ok (grpKv cs), z, .un] = some (.next [.fz (.int n), .fz (.list (ts.map pairD)), .fz (.list ((ts.foldl merge (ident n)).map .int)), x, y, .fz (dictK (grpKv cs)), z, .un]) from rfl, seqO_next]
  rw [evSs_cons, evS_retF, evF_sorted, e3, Option.bind_some, sortF_lsts (by rw [List.length_map]; omega), Option.map_some, seqO_retF]
  rfl
/-! ### turned_piece -/
theorem in_two (x a b : Int) : inD true (.int x) (.list [.int a, .int b]) = some (decide (x ≠ a) && decide (x ≠ b)) := by
  have e := in_ints true x [a, b]
  rw [show ([a, b] : List Int).map PyData.int = [.int a, .int b] from rfl] at e
  rw [e]
  congr 1
  by_cases h1 : x = a <;> by_cases h2 : x = b <;> simp [h1, h2]
theorem at0 {α : Type} (x : α) (r : List α) : atI (x :: r) 0 = some x := at_nat (by decide) rfl
theorem at1 {α : Type} (x y : α) (r : List α) : atI (x :: y :: r) 1 = some y := at_nat (by decide) rfl
/-- the head of a list is neither -/
def headOk (a b : Int) (l : List Int) : Bool := match l with
  | [] => false
  | x :: _ => decide (x ≠ a) && decide (x ≠ b)
theorem turned_kept {n : Nat} {ts : List (Int × Int)} {a b : Int} (hts : ts.length < 1000) : evE (.comp [6] (.nm 6) (.seq (.var 1)) (.if_ (.and (.isin true (.ix (.var 6) (.cint 0)) (.var 4)) (.isin true (.ix (.var 6) (.cint 1)) (.var 4)))) (.var 6)) [.fz (.int n), .fz (.list (ts.map pairD)), .fz (.int a), .fz (.int b), .fz (.list [.int a, .int b]), .un, .un, .un, .un] = some (.list ((ts.filter (keeps a b)).map pairD)) := by
    refine (evF_some (g := pairD) (h := pairD) ts (keeps a b) ?_ (small_le (by omega)) fun t _ => ?_).2
    · simp only [evI_seq, evE_var, cellD_zero, cellD_succ, Option.bind_some, itemsD_list]
    · obtain ⟨p, q⟩ := t
      unfold cF
      simp only [asT_nm, wipeE_cons, wipeE_nil, List.set_cons_succ, List.set_cons_zero, Option.bind_some, evC_if_, viewE_cons, viewE_nil, view_fz, view_un, evT_and, evT_isin, evE_ix, evE_var, evE_cint, cellD_zero, cellD_succ, bind2_some, ixD_tuple, at0, at1, in_two]
      unfold keeps
      cases decide (p ≠ a) <;> cases decide (p ≠ b) <;> cases decide (q ≠ a) <;> cases decide (q ≠ b) <;> rfl
theorem turned_lists {n : Nat} {ts kt : List (Int × Int)} {a b : Int} {cl : List (List Int)} (hcl : cl.length < 1000) (mem : ∀ l ∈ cl, l ≠ []) (ej : f_joined_lists [.int n, .list (kt.map pairD)] = some (cl.map lstD)) : evE (.comp [8] (.nm 8) (.seq (.callF "joined_lists" f_joined_lists (.cons (.var 0) (.cons (.var 5) .nil)))) (.if_ (.isin true (.ix (.var 8) (.cint 0)) (.var 4))) (.var 8)) [.fz (.int n), .fz (.list (ts.map pairD)), .fz (.int a), .fz (.int b), .fz (.list [.int a, .int b]), .fz (.list (kt.map pairD)), .un, .un, .un] = some (.list ((cl.filter (headOk a b)).map lstD)) := by
    refine (evF_some (g := lstD) (h := lstD) cl (headOk a b) ?_ (small_le (by omega)) fun l hl => ?_).2
    · rw [evI_seq, (callF_is (by simp only [evA_cons, evA_nil, evE_var, cellD_zero, cellD_succ, bind2_some]) ej).1, Option.bind_some, itemsD_list]
    · cases l with
      | nil => exact absurd rfl (mem _ hl)
      | cons x r =>
        have hh : headOk a b (x :: r) = (decide (x ≠ a) && decide (x ≠ b)) := rfl
        rw [hh]
        unfold cF
        simp only [asT_nm, wipeE_cons, wipeE_nil, List.set_cons_succ, List.set_cons_zero, Option.bind_some, evC_if_, viewE_cons, viewE_nil, view_fz, view_un, evT_isin, evE_ix, evE_var, evE_cint, cellD_zero, cellD_succ, bind2_some, lstD, List.map_cons, ixD_list, at0, in_two]
        cases decide (x ≠ a) <;> cases decide (x ≠ b) <;> rfl
/-- the first list whose head is neither is the piece -/
theorem turned_top {n : Nat} {ts : List (Int × Int)} {a b : Int} (h : Ties n ts) (ho : others n a b ≠ []) {cs : List (Int × List Int)} (hg : Grp (namesOf n ts a b) n cs) : ∃ r, (srt (cs.map (·.2))).filter (headOk a b) = piece n ts a b :: r := by
  obtain ⟨g1, g2, g3⟩ := hg
  have I := inv_names (a := a) (b := b) h
  have mem : ∀ l ∈ srt (cs.map (·.2)), ∃ c ∈ cs, l = c.2 ∧ c.2 ≠ [] ∧ c.2 = clsOf n (namesOf n ts a b) c.1 := fun l hl => by
    obtain ⟨c, hc, rfl⟩ := List.mem_map.mp ((srt_perm _).mem_iff.mp hl)
    exact ⟨c, hc, rfl, (g2 c hc).2, (g2 c hc).1⟩
  obtain ⟨lm, ll⟩ := least_of ho
  have ln := least_name h ho
  have inR := (others_mem.mp lm).1
  -- the class of the least other place
  obtain ⟨c0, hc0, ec0⟩ := List.mem_map.mp (g3 _ inR)
  have e0 : c0.1 = least n a b := ec0.trans ln
  have p0 : c0.2 = piece n ts a b := by rw [(g2 c0 hc0).1, e0]; rfl
  have hd0 : ∃ r0, piece n ts a b = least n a b :: r0 := by
    have m0 : least n a b ∈ piece n ts a b := piece_mem.mpr ⟨inR, ln⟩
    have up : (piece n ts a b).Pairwise (· < ·) := (ident_up n).filter _
    revert m0 up
    have po := fun x (hx : x ∈ piece n ts a b) => ll x (piece_other h ho hx)
    revert po
    generalize piece n ts a b = l
    intro po m0 up
    cases l with
    | nil => cases m0
    | cons y r =>
      have le := po y List.mem_cons_self
      rcases List.mem_cons.mp m0 with z | z
      · exact ⟨r, by rw [z]⟩
      · have := (List.pairwise_cons.mp up).1 _ z
        omega
  obtain ⟨r0, er0⟩ := hd0
  have in0 : piece n ts a b ∈ (srt (cs.map (·.2))).filter (headOk a b) := by
    refine List.mem_filter.mpr ⟨(srt_perm _).mem_iff.mpr (List.mem_map.mpr ⟨c0, hc0, p0⟩), ?_⟩
    rw [er0]
    have := others_mem.mp lm
    show (decide (least n a b ≠ a) && decide (least n a b ≠ b)) = true
    simp [this.2.1, this.2.2]
  have up : ((srt (cs.map (·.2))).filter (headOk a b)).Pairwise fun a b => leD (lstD a) (lstD b) = true := (srt_up _).filter _
  have all : ∀ l ∈ (srt (cs.map (·.2))).filter (headOk a b), l ∈ srt (cs.map (·.2)) ∧ headOk a b l = true := fun l hl => List.mem_filter.mp hl
  revert in0 up all
  generalize (srt (cs.map (·.2))).filter (headOk a b) = fl
  intro in0 up all
  cases fl with
  | nil => cases in0
  | cons l r =>
    refine ⟨r, ?_⟩
    rcases List.mem_cons.mp in0 with z | z
    · rw [z]
    · have le := (List.pairwise_cons.mp up).1 _ z
      obtain ⟨hl, hok⟩ := all l List.mem_cons_self
      obtain ⟨c, hc, e, ne, ecl⟩ := mem l hl
      cases l with
      | nil => exact absurd e.symm ne
      | cons x rr =>
        rw [er0] at le
        have xle : x ≤ least n a b := leD_head le
        have xin : x ∈ clsOf n (namesOf n ts a b) c.1 := by rw [← ecl, ← e]; exact List.mem_cons_self
        obtain ⟨xr, xn⟩ : InR n x ∧ nat_ (namesOf n ts a b) x = c.1 := by
          have := List.mem_filter.mp xin
          exact ⟨ident_mem.mp this.1, of_decide_eq_true this.2⟩
        have xo : x ∈ others n a b := by
          refine others_mem.mpr ⟨xr, ?_⟩
          have : (decide (x ≠ a) && decide (x ≠ b)) = true := hok
          simpa using this
        have xe : x = least n a b := Int.le_antisymm xle (ll x xo)
        rw [e, ecl, ← xn, xe, ln]
        rfl
theorem turned_two {n : Nat} {ts : List (Int × Int)} {a b : Int} : evE (.lst (.cons (.var 2) (.cons (.var 3) .nil))) [.fz (.int n), .fz (.list (ts.map pairD)), .fz (.int a), .fz (.int b), .un, .un, .un, .un, .un] = some (.list [.int a, .int b]) := by
  simp only [evE_lst, evA_cons, evA_nil, evE_var, cellD_zero, cellD_succ, bind2_some, Option.bind_some]
  rw [len_ok (by show 2 < 1000000; omega), Option.map_some]
theorem e_turned {n : Nat} {ts : List (Int × Int)} {a b : Int} (hn : n < 1000) (hts : ts.length < 1000) (h : Ties n ts) (ho : others n a b ≠ []) : f_turned_piece [.int n, .list (ts.map pairD), .int a, .int b] = some (lstD (piece n ts a b)) := by
  have hk : Ties n (ts.filter (keeps a b)) := fun t ht => h t (List.mem_filter.mp ht).1
  obtain ⟨cs, hg, hc, ej⟩ := e_joined hn hk
  have e1 := turned_kept (n := n) (a := a) (b := b) hts
  have hcl : (srt (cs.map (·.2))).length < 1000 := by
    have := (srt_perm (cs.map (·.2))).length_eq
    rw [List.length_map] at this
    omega
  have e2 := turned_lists (n := n) (ts := ts) (a := a) (b := b) hcl (fun l hl => by
    obtain ⟨c, hc, rfl⟩ := List.mem_map.mp ((srt_perm _).mem_iff.mp hl)
    exact (hg.2.1 c hc).2) ej
  obtain ⟨r, er⟩ := turned_top h ho hg
  have st : start0 9 [.int n, .list (ts.map pairD), .int a, .int b] = [.fz (.int n), .fz (.list (ts.map pairD)), .fz (.int a), .fz (.int b), .un, .un, .un, .un, .un] := rfl
  unfold f_turned_piece
  rw [runD_4, st]
  unfold b_turned_piece
  rw [evSs_cons, evS_asg, turned_two, Option.map_some, nx_some, seqO_next]
  simp only [List.set_cons_succ, List.set_cons_zero]
  rw [evSs_cons, evS_asg, e1, Option.map_some, nx_some, seqO_next]
  simp only [List.set_cons_succ, List.set_cons_zero]
  rw [evSs_cons, evS_asg, e2, er, Option.map_some, nx_some, seqO_next]
  simp only [List.set_cons_succ, List.set_cons_zero, List.map_cons, evSs_cons, evS_ret, evE_ix, evE_var, evE_cint, cellD_zero, cellD_succ, bind2_some, ixD_list, at0, Option.map_some, seqO_ret, Option.bind_some]
  rfl
end K90

set_option Elab.async false
set_option linter.all false
set_option maxRecDepth 100000
set_option autoImplicit false
set_option maxHeartbeats 1600000
/-! K90m4: twisted, the law's own twist, the law's question. -/
namespace K90
open PySem L2 Fv
theorem in_pc (x : Int) (pc : List Int) : inD false (.int x) (lstD pc) = some (decide (x ∈ pc)) := by
  rw [in_ints]
  simp
theorem tw_turn {n : Nat} {tsD : D} {a b : Int} {pc : List Int} {acc : List (Int × Int)} {t : Int × Int} (hl : acc.length < 100000) :
    evSs L_twisted_0 [.fz (.int n), .fz tsD, .fz (.int a), .fz (.int b), .fz (lstD pc), .ol (acc.map pairD), .fz (pairD t)] = some (.next [.fz (.int n), .fz tsD, .fz (.int a), .fz (.int b), .fz (lstD pc), .ol ((acc ++ [twOne pc a b t]).map pairD), .fz (pairD t)]) := by
  obtain ⟨p, q⟩ := t
  have c1 : evE (.call "other_end" f_other_end (.cons (.ix (.var 6) (.cint 0)) (.cons (.var 2) (.cons (.var 3) .nil)))) [.fz (.int n), .fz tsD, .fz (.int a), .fz (.int b), .fz (lstD pc), .ol (acc.map pairD), .fz (pairD (p, q))] = some (.int (sw a b p)) :=
    call_is (by simp only [evA_cons, evA_nil, evE_ix, evE_var, evE_cint, cellD_zero, cellD_succ, bind2_some, ixD_tuple, at0]) e_other
  have c2 : evE (.call "other_end" f_other_end (.cons (.ix (.var 6) (.cint 1)) (.cons (.var 2) (.cons (.var 3) .nil)))) [.fz (.int n), .fz tsD, .fz (.int a), .fz (.int b), .fz (lstD pc), .ol (acc.map pairD), .fz (pairD (p, q))] = some (.int (sw a b q)) :=
    call_is (by simp only [evA_cons, evA_nil, evE_ix, evE_var, evE_cint, cellD_zero, cellD_succ, bind2_some, ixD_tuple, at1]) e_other
  have tp : tupD [.int (sw a b p), .int (sw a b q)] = some (pairD (sw a b p, sw a b q)) := if_pos (small_le (by show 2 < 1000000; omega))
  unfold L_twisted_0
  rw [evSs_cons, evS_ite]
  simp only [viewE_cons, viewE_nil, view_fz, view_ol, evT_or, evT_isin, evE_ix, evE_var, evE_cint, cellD_zero, cellD_succ, bind2_some, ixD_tuple, at0, at1, in_pc, Option.bind_some]
  by_cases h : p ∈ pc ∨ q ∈ pc
  · have e : (cond (decide (p ∈ pc)) (some true) (some (decide (q ∈ pc)))) = some true := by
      rcases h with h | h
      · rw [decide_eq_true h]; rfl
      · rw [decide_eq_true h]; cases decide (p ∈ pc) <;> rfl
    rw [e, Option.bind_some, cond_true, evSs_cons, evS_app, evE_tup]
    simp only [cellL_zero, cellL_succ, evA_cons, evA_nil, c1, c2, bind2_some, Option.bind_some, tp, app_pair hl, Option.map_some, nx_some, seqO_next, evSs_nil, List.set_cons_succ, List.set_cons_zero]
    rw [show twOne pc a b (p, q) = (sw a b p, sw a b q) from if_pos h]
  · have h1 : ¬ p ∈ pc := fun z => h (.inl z)
    have h2 : ¬ q ∈ pc := fun z => h (.inr z)
    have e : (cond (decide (p ∈ pc)) (some true) (some (decide (q ∈ pc)))) = some false := by
      rw [decide_eq_false h1, decide_eq_false h2]; rfl
    rw [e, Option.bind_some, cond_false, evSs_cons, evS_app]
    simp only [cellL_zero, cellL_succ, evE_var, cellD_zero, cellD_succ, bind2_some, app_pair hl, Option.map_some, nx_some, seqO_next, evSs_nil, List.set_cons_succ, List.set_cons_zero]
    rw [show twOne pc a b (p, q) = (p, q) from if_neg h]
theorem e_twisted {n : Nat} {ts : List (Int × Int)} {a b : Int} (hn : n < 1000) (hts : ts.length < 1000) (h : Ties n ts) (ho : others n a b ≠ []) : f_twisted [.int n, .list (ts.map pairD), .int a, .int b] = some ((twist n ts a b).map pairD) := by
  obtain ⟨ρ', e, acc, l, rfl, ha⟩ := for_inv1 (as := asT (.nm 6)) (body := evSs L_twisted_0) (fun i ρ => ∃ (acc : List (Int × Int)) (l : Cell), ρ = [.fz (.int n), .fz (.list (ts.map pairD)), .fz (.int a), .fz (.int b), .fz (lstD (piece n ts a b)), .ol (acc.map pairD), l] ∧ acc = (ts.take i).map (twOne (piece n ts a b) a b))
    (ts.map pairD) [.fz (.int n), .fz (.list (ts.map pairD)), .fz (.int a), .fz (.int b), .fz (lstD (piece n ts a b)), .ol [], .un] ⟨[], .un, rfl, rfl⟩ (by
      rintro i d ρ hd ⟨acc, l, rfl, ha⟩
      rw [List.getElem?_map] at hd
      obtain ⟨t, hv, rfl⟩ := map_some' hd
      have hal : acc.length < 100000 := by rw [ha]; simp; omega
      exact ⟨_, tw_turn hal, _, _, rfl, by rw [take_snoc hv, List.map_append, ha]; rfl⟩)
  rw [List.length_map, List.take_length] at ha
  have e1 : evE (.call "turned_piece" f_turned_piece (.cons (.var 0) (.cons (.var 1) (.cons (.var 2) (.cons (.var 3) .nil))))) [.fz (.int n), .fz (.list (ts.map pairD)), .fz (.int a), .fz (.int b), .un, .un, .un] = some (lstD (piece n ts a b)) :=
    call_is (by simp only [evA_cons, evA_nil, evE_var, cellD_zero, cellD_succ, bind2_some]) (e_turned hn hts h ho)
  have st : start0 7 [.int n, .list (ts.map pairD), .int a, .int b] = [.fz (.int n), .fz (.list (ts.map pairD)), .fz (.int a), .fz (.int b), .un, .un, .un] := rfl
  have es : evS S_twisted_0 [.fz (.int n), .fz (.list (ts.map pairD)), .fz (.int a), .fz (.int b), .fz (lstD (piece n ts a b)), .ol [], .un] = some (.next [.fz (.int n), .fz (.list (ts.map pairD)), .fz (.int a), .fz (.int b), .fz (lstD (piece n ts a b)), .ol (acc.map pairD), l]) := by
    unfold S_twisted_0
    rw [evS_for_]
    simp only [evI_seq, evE_var, cellD_zero, cellD_succ, Option.bind_some, itemsD_list]
    exact e
  unfold f_twisted
  rw [runF_4, st]
  unfold b_twisted
  rw [evSs_cons, evS_asg, e1, Option.map_some, nx_some, seqO_next]
  simp only [List.set_cons_succ, List.set_cons_zero]
  rw [evSs_cons, evS_asgF, evF_lst, evA_nil, Option.bind_some, f_nil, Option.map_some, nx_some, seqO_next]
  simp only [List.set_cons_succ, List.set_cons_zero]
  rw [evSs_cons, es, seqO_next, evSs_cons, evS_retO]
  simp only [cellL_zero, cellL_succ, Option.map_some, seqO_retF, Option.bind_some]
  rw [ha]
  rfl
end K90

set_option Elab.async false
set_option linter.all false
set_option maxRecDepth 100000
set_option autoImplicit false
set_option maxHeartbeats 1600000
/-! K90m5: the law's own pieces and twist. -/
namespace K90
open PySem L2 Fv
theorem keeps_and (a b p q : Int) : (cond (decide (p ≠ a)) (cond (decide (p ≠ b)) (cond (decide (q ≠ a)) (some (decide (q ≠ b))) (some false)) (some false)) (some false)) = some (keeps a b (p, q)) := by
  unfold keeps
  cases decide (p ≠ a) <;> cases decide (p ≠ b) <;> cases decide (q ≠ a) <;> cases decide (q ≠ b) <;> rfl
theorem two_lt : ([.int 0, .int 0] : List D).length < 1000000 := by show 2 < 1000000; omega
theorem gg_ix (x y n : Int) : (bind2 (some (PyData.list [.int n, .int (min x y)])) (some (.int (if n = max x y then 1 else 0))) ixD) = some (.int (gg x y n)) := by
  unfold gg
  rw [bind2_some]
  by_cases h : n = max x y
  · rw [if_pos h, if_pos h]; exact at1 _ _ _
  · rw [if_neg h, if_neg h]; exact at0 _ _
theorem int_bool (c : Prop) [Decidable c] : intD [.bool (decide c)] = some (.int (if c then 1 else 0)) := by
  by_cases h : c
  · rw [decide_eq_true h, if_pos h]; rfl
  · rw [decide_eq_false h, if_neg h]; rfl
theorem pw_turn {n : Nat} {tsD : D} {a b p q : Int} {names : List Int} (hl : names.length = n) (hn : n < 1000) (hp : InR n p) (hq : InR n q) {c7 c8 c9 c10 c11 : Cell} : ∃ c7' c8' : Cell,
    evSs L__law_pieces_without_0 [.fz (.int n), .fz tsD, .fz (.int a), .fz (.int b), .fz (lstD names), .fz (.int p), .fz (.int q), c7, c8, c9, c10, c11] =
      some (.next [.fz (.int n), .fz tsD, .fz (.int a), .fz (.int b), .fz (lstD (if keeps a b (p, q) = true then merge names (p, q) else names)), .fz (.int p), .fz (.int q), c7', c8', c9, c10, c11]) := by
  have e1 := at_names (names := names) (p := p) (by rw [hl]; exact hp)
  have e2 := at_names (names := names) (p := q) (by rw [hl]; exact hq)
  unfold L__law_pieces_without_0
  rw [evSs_cons, evS_ite]
  simp only [viewE_cons, viewE_nil, view_fz, evT_and, evT_cmp, evE_var, cellD_zero, cellD_succ, bind2_some, cop_int', copI_ne, Option.bind_some]
  have ne : ∀ u v : Int, (!decide (u = v)) = decide (u ≠ v) := fun u v => by by_cases h : u = v <;> simp [h]
  rw [ne, ne, ne, ne, keeps_and, Option.bind_some]
  cases k : keeps a b (p, q) with
  | false =>
    refine ⟨c7, c8, ?_⟩
    rw [cond_false, evSs_nil, seqO_next, evSs_nil, if_neg Bool.false_ne_true]
  | true =>
    refine ⟨.fz (.int (min (nat_ names p) (nat_ names q))), .fz (.int (max (nat_ names p) (nat_ names q))), ?_⟩
    have s1 : sortF [.list [.int (nat_ names p), .int (nat_ names q)]] = some [.int (min (nat_ names p) (nat_ names q)), .int (max (nat_ names p) (nat_ names q))] := by
      have := sort_ints (ns := [nat_ names p, nat_ names q]) (small_le (by show 2 < 1000000; omega))
      rw [sortI_two] at this
      exact this
    have l2 : ∀ x y : D, lenOk [x, y] = some [x, y] := fun x y => len_ok (by show 2 < 1000000; omega)
    rw [cond_true, evSs_cons, evS_asgT, evE_sorted, evE_lst]
    simp only [evA_cons, evA_nil, evE_ix, evE_var, cellD_zero, cellD_succ, bind2_some, ixD_list, e1, e2, Option.bind_some, l2, Option.map_some, s1, asT_lst, setAll_cons, setAll_nil, nx_some, seqO_next, List.set_cons_succ, List.set_cons_zero, evSs_cons, evSs_nil]
    have ec : evE (.comp [9] (.nm 9) (.seq (.var 4)) .yes (.ix (.lst (.cons (.var 9) (.cons (.var 7) .nil))) (.int (.cmp .eq (.var 9) (.var 8))))) [.fz (.int n), .fz tsD, .fz (.int a), .fz (.int b), .fz (lstD names), .fz (.int p), .fz (.int q), .fz (.int (min (nat_ names p) (nat_ names q))), .fz (.int (max (nat_ names p) (nat_ names q))), c9, c10, c11] = some (lstD (merge names (p, q))) := by
      have := (evF_all (vs := [9]) (t := .nm 9) (it := .seq (.var 4)) (e := .ix (.lst (.cons (.var 9) (.cons (.var 7) .nil))) (.int (.cmp .eq (.var 9) (.var 8)))) (ρ := [.fz (.int n), .fz tsD, .fz (.int a), .fz (.int b), .fz (lstD names), .fz (.int p), .fz (.int q), .fz (.int (min (nat_ names p) (nat_ names q))), .fz (.int (max (nat_ names p) (nat_ names q))), c9, c10, c11])
        (g := PyData.int) (h := fun v => PyData.int (gg (nat_ names p) (nat_ names q) v)) names (by simp only [evI_seq, evE_var, cellD_zero, cellD_succ, Option.bind_some, itemsD_list]) (small_le (by omega)) fun v _ => by
          unfold cF
          simp only [asT_nm, wipeE_cons, wipeE_nil, List.set_cons_succ, List.set_cons_zero, Option.bind_some, evC_yes, cond_true, evE_ix, evE_lst, evA_cons, evA_nil, evE_var, cellD_zero, cellD_succ, bind2_some, l2, Option.map_some, evE_int, evE_cmp, cop_int', copI_eq]
          rw [int_bool]
          rw [gg_ix]
          rfl).2
      rw [this]
      unfold merge
      show some (PyData.list _) = some (PyData.list ((names.map _).map PyData.int))
      rw [List.map_map]
      rfl
    rw [evS_asg, ec, Option.map_some, nx_some, seqO_next]
    simp only [List.set_cons_succ, List.set_cons_zero]
    rw [evSs_nil, seqO_next, evSs_nil, if_pos True.intro]
/-- the pieces: the first is the piece -/
theorem head_set {n : Nat} {ts : List (Int × Int)} {a b : Int} (h : Ties n ts) (ho : others n a b ≠ []) : ∃ r, setSort ((others n a b).map (nat_ (namesOf n ts a b))) = least n a b :: r := by
  obtain ⟨lm, ll⟩ := least_of ho
  have ln := least_name h ho
  have up := setSort_up ((others n a b).map (nat_ (namesOf n ts a b)))
  have m0 : least n a b ∈ setSort ((others n a b).map (nat_ (namesOf n ts a b))) := setSort_mem.mpr (List.mem_map.mpr ⟨_, lm, ln⟩)
  have le : ∀ y ∈ setSort ((others n a b).map (nat_ (namesOf n ts a b))), least n a b ≤ y := fun y hy => by
    obtain ⟨x, hx, rfl⟩ := List.mem_map.mp (setSort_mem.mp hy)
    exact least_le h ho hx
  revert up m0 le
  generalize setSort ((others n a b).map (nat_ (namesOf n ts a b))) = l
  intro up m0 le
  cases l with
  | nil => cases m0
  | cons y r =>
    rcases List.mem_cons.mp m0 with z | z
    · exact ⟨r, by rw [z]⟩
    · have h1 := (List.pairwise_cons.mp up).1 _ z
      have h2 := le y List.mem_cons_self
      omega
theorem insS_len (x : Int) : ∀ l : List Int, (insS x l).length ≤ l.length + 1
  | [] => by simp [insS]
  | y :: r => by
    unfold insS
    split
    · simp
    · split
      · simp
      · have := insS_len x r
        rw [List.length_cons, List.length_cons]
        omega
theorem setSort_len : ∀ l : List Int, (setSort l).length ≤ l.length
  | [] => Nat.le_refl _
  | x :: r => by
    have h1 := insS_len x (setSort r)
    have h2 := setSort_len r
    show (insS x (setSort r)).length ≤ _
    rw [List.length_cons]
    omega
theorem others_len (n : Nat) (a b : Int) : (others n a b).length ≤ n := filter_len n _
def lawPieces (n : Nat) (ts : List (Int × Int)) (a b : Int) : List (List Int) := (setSort ((others n a b).map (nat_ (namesOf n ts a b)))).map fun m => (others n a b).filter fun p => decide (nat_ (namesOf n ts a b) p = m)
theorem lawPieces_head {n : Nat} {ts : List (Int × Int)} {a b : Int} (h : Ties n ts) (ho : others n a b ≠ []) : ∃ r, lawPieces n ts a b = piece n ts a b :: r := by
  obtain ⟨r, e⟩ := head_set h ho
  unfold lawPieces
  rw [e, List.map_cons, piece_eq h ho]
  exact ⟨_, rfl⟩
theorem e_pieces {n : Nat} {ts : List (Int × Int)} {a b : Int} (hn : n < 60) (hts : ts.length < 1000) (h : Ties n ts) : f__law_pieces_without [.int n, .list (ts.map pairD), .int a, .int b] = some ((lawPieces n ts a b).map lstD) := by
  obtain ⟨ρ', e, names, c5, c6, c7, c8, rfl, hm⟩ := for_inv1 (as := asT (.tup [5, 6])) (body := evSs L__law_pieces_without_0) (fun i ρ => ∃ (names : List Int) (c5 c6 c7 c8 : Cell), ρ = [.fz (.int n), .fz (.list (ts.map pairD)), .fz (.int a), .fz (.int b), .fz (lstD names), c5, c6, c7, c8, .un, .un, .un] ∧ names = ((ts.take i).filter (keeps a b)).foldl merge (ident n))
    (ts.map pairD) [.fz (.int n), .fz (.list (ts.map pairD)), .fz (.int a), .fz (.int b), .fz (lstD (ident n)), .un, .un, .un, .un, .un, .un, .un] ⟨ident n, .un, .un, .un, .un, rfl, rfl⟩ (by
      rintro i d ρ hd ⟨names, c5, c6, c7, c8, rfl, hm⟩
      rw [List.getElem?_map] at hd
      obtain ⟨⟨p, q⟩, hv, rfl⟩ := map_some' hd
      obtain ⟨r1, r2⟩ := h _ (List.mem_of_getElem? hv)
      have hl : names.length = n := by
        rw [hm]
        exact (inv_fold (a := a) (b := b) _ (inv_ident n a b) fun t ht => by
          obtain ⟨h1, h2⟩ := List.mem_filter.mp ht
          exact ⟨h t (List.mem_of_mem_take h1), h2⟩).len
      obtain ⟨c7', c8', et⟩ := pw_turn (tsD := .list (ts.map pairD)) (a := a) (b := b) hl (by omega) r1 r2 (c7 := c7) (c8 := c8) (c9 := .un) (c10 := .un) (c11 := .un)
      refine ⟨_, et, _, _, _, c7', c8', rfl, ?_⟩
      rw [take_snoc hv, List.filter_append, List.foldl_append, ← hm]
      cases k : keeps a b (p, q) with
      | true => rw [if_pos rfl, List.filter_cons_of_pos k]; rfl
      | false => rw [if_neg Bool.false_ne_true, List.filter_cons_of_neg (by rw [k]; exact Bool.false_ne_true)]; rfl)
  rw [List.length_map, List.take_length] at hm
  have hm' : names = namesOf n ts a b := hm
  subst hm'
  have I := inv_names (a := a) (b := b) h
  have e0 : evE (.lrng (.r1 (.var 0))) [.fz (.int n), .fz (.list (ts.map pairD)), .fz (.int a), .fz (.int b), .un, .un, .un, .un, .un, .un, .un, .un] = some (lstD (ident n)) := (lrng_ok (n := n) (by simp only [evE_var, viewE_cons, view_fz, cellD_zero]) (by omega)).1
  have es : evS S__law_pieces_without_0 [.fz (.int n), .fz (.list (ts.map pairD)), .fz (.int a), .fz (.int b), .fz (lstD (ident n)), .un, .un, .un, .un, .un, .un, .un] = some (.next [.fz (.int n), .fz (.list (ts.map pairD)), .fz (.int a), .fz (.int b), .fz (lstD (namesOf n ts a b)), c5, c6, c7, c8, .un, .un, .un]) := by
    unfold S__law_pieces_without_0
    rw [evS_for_]
    simp only [evI_seq, evE_var, cellD_zero, cellD_succ, Option.bind_some, itemsD_list]
    exact e
  have ne : ∀ u v : Int, (!decide (u = v)) = decide (u ≠ v) := fun u v => by by_cases h : u = v <;> simp [h]
  have eo : evE (.comp [11] (.nm 11) (.r1 (.var 0)) (.if_ (.and (.cmp .ne (.var 11) (.var 2)) (.cmp .ne (.var 11) (.var 3)))) (.var 11)) [.fz (.int n), .fz (.list (ts.map pairD)), .fz (.int a), .fz (.int b), .fz (lstD (namesOf n ts a b)), c5, c6, c7, c8, .un, .un, .un] = some (lstD (others n a b)) := by
    refine (evF_some (g := PyData.int) (h := PyData.int) (ident n) (fun p => decide (p ≠ a) && decide (p ≠ b)) (r1_it (n := n) (by simp only [evE_var, viewE_cons, view_fz, cellD_zero]) (by omega)) (small_le (by rw [ident_len]; omega)) fun v _ => ?_).2
    unfold cF
    have vw : ∀ c : Cell, c.view = c.view := fun _ => rfl
    simp only [asT_nm, wipeE_cons, wipeE_nil, List.set_cons_succ, List.set_cons_zero, Option.bind_some, evC_if_, viewE_cons, viewE_nil, view_fz, view_un, evT_and, evT_cmp, evE_var, cellD_zero, cellD_succ, bind2_some, cop_int', copI_ne, ne]
    cases decide (v ≠ a) <;> cases decide (v ≠ b) <;> rfl
  have hol := others_len n a b
  let R : EnvD := [.fz (.int n), .fz (.list (ts.map pairD)), .fz (.int a), .fz (.int b), .fz (lstD (namesOf n ts a b)), c5, c6, c7, c8, .un, .fz (lstD (others n a b)), .un]
  have en : evE (.comp [11] (.nm 11) (.seq (.var 10)) .yes (.ix (.var 4) (.var 11))) R = some (.list (((others n a b).map (nat_ (namesOf n ts a b))).map .int)) := by
    rw [(evF_all (g := PyData.int) (h := fun v => PyData.int (nat_ (namesOf n ts a b) v)) (others n a b) (by simp only [R, evI_seq, evE_var, cellD_zero, cellD_succ, Option.bind_some, itemsD_list]) (small_le (by omega)) fun v hv => ?_).2]
    · rw [List.map_map]
      rfl
    · unfold cF
      have ev := at_names (names := namesOf n ts a b) (p := v) (by rw [I.len]; exact (others_mem.mp hv).1)
      simp only [R, asT_nm, wipeE_cons, wipeE_nil, List.set_cons_succ, List.set_cons_zero, Option.bind_some, evC_yes, cond_true, evE_ix, evE_var, cellD_zero, cellD_succ, bind2_some, ixD_list, ev, Option.map_some]
  have hsl := setSort_len ((others n a b).map (nat_ (namesOf n ts a b)))
  rw [List.length_map] at hsl
  have ess : evI (.seq (.sset (.comp [11] (.nm 11) (.seq (.var 10)) .yes (.ix (.var 4) (.var 11))))) R = some ((setSort ((others n a b).map (nat_ (namesOf n ts a b)))).map .int) := by
    rw [evI_seq, evE_sset, en, Option.bind_some]
    show ((ssetF [.list (((others n a b).map (nat_ (namesOf n ts a b))).map .int)]).map PyData.list).bind itemsD = _
    have : ssetF [.list (((others n a b).map (nat_ (namesOf n ts a b))).map .int)] = some ((setSort ((others n a b).map (nat_ (namesOf n ts a b)))).map .int) := by
      show (intsOf (((others n a b).map (nat_ (namesOf n ts a b))).map .int)).bind _ = _
      rw [intsOf_map, Option.bind_some, if_pos (by rw [List.length_map]; omega)]
    rw [this]
    rfl
  have ef : evF (.comp [9] (.nm 9) (.seq (.sset (.comp [11] (.nm 11) (.seq (.var 10)) .yes (.ix (.var 4) (.var 11))))) .yes (.comp [11] (.nm 11) (.seq (.var 10)) (.if_ (.cmp .eq (.ix (.var 4) (.var 11)) (.var 9))) (.var 11))) R = some ((lawPieces n ts a b).map lstD) := by
    rw [(evF_all (g := PyData.int) (h := fun m => lstD ((others n a b).filter fun p => decide (nat_ (namesOf n ts a b) p = m))) (setSort ((others n a b).map (nat_ (namesOf n ts a b)))) ess (small_le (by omega)) fun m _ => ?_).1]
    · unfold lawPieces
      rw [List.map_map]
      rfl
    · have inner : evE (.comp [11] (.nm 11) (.seq (.var 10)) (.if_ (.cmp .eq (.ix (.var 4) (.var 11)) (.var 9))) (.var 11)) [.fz (.int n), .fz (.list (ts.map pairD)), .fz (.int a), .fz (.int b), .fz (lstD (namesOf n ts a b)), c5, c6, c7, c8, .fz (.int m), .fz (lstD (others n a b)), .un] = some (lstD ((others n a b).filter fun p => decide (nat_ (namesOf n ts a b) p = m))) := by
        refine (evF_some (g := PyData.int) (h := PyData.int) (others n a b) (fun p => decide (nat_ (namesOf n ts a b) p = m)) (by simp only [evI_seq, evE_var, cellD_zero, cellD_succ, Option.bind_some, itemsD_list]) (small_le (by omega)) fun v hv => ?_).2
        unfold cF
        have ev := at_names (names := namesOf n ts a b) (p := v) (by rw [I.len]; exact (others_mem.mp hv).1)
        simp only [asT_nm, wipeE_cons, wipeE_nil, List.set_cons_succ, List.set_cons_zero, Option.bind_some, evC_if_, viewE_cons, viewE_nil, view_fz, view_un, evT_cmp, evE_ix, evE_var, cellD_zero, cellD_succ, bind2_some, ixD_list, ev, cop_int', copI_eq]
        cases decide (nat_ (namesOf n ts a b) v = m) <;> rfl
      unfold cF
      simp only [R, asT_nm, wipeE_cons, wipeE_nil, List.set_cons_succ, List.set_cons_zero, Option.bind_some, evC_yes, cond_true, inner, Option.map_some]
  have st : start0 12 [.int n, .list (ts.map pairD), .int a, .int b] = [.fz (.int n), .fz (.list (ts.map pairD)), .fz (.int a), .fz (.int b), .un, .un, .un, .un, .un, .un, .un, .un] := rfl
  unfold f__law_pieces_without
  rw [runF_4, st]
  unfold b__law_pieces_without
  rw [evSs_cons, evS_asg, e0, Option.map_some, nx_some, seqO_next]
  simp only [List.set_cons_succ, List.set_cons_zero]
  rw [evSs_cons, es, seqO_next, evSs_cons, evS_asg, eo, Option.map_some, nx_some, seqO_next]
  simp only [List.set_cons_succ, List.set_cons_zero]
  rw [evSs_cons, evS_retF, ef, Option.map_some, seqO_retF]
  rfl
end K90

set_option Elab.async false
set_option linter.all false
set_option maxRecDepth 100000
set_option autoImplicit false
set_option maxHeartbeats 1600000
/-! K90m6: the law's own twist; its question. -/
namespace K90
open PySem L2 Fv
/-- the places with two exchanged -/
def swapL (n : Nat) (a b : Int) : List Int := ((ident n).set a.toNat b).set b.toNat a
theorem swapL_len (n : Nat) (a b : Int) : (swapL n a b).length = n := by
  unfold swapL
  rw [List.length_set, List.length_set, ident_len]
theorem swapL_at {n : Nat} {a b x : Int} (ha : InR n a) (hb : InR n b) (hx : InR n x) : nat_ (swapL n a b) x = sw a b x := by
  have la := ha.1
  have lb := hb.1
  have lx := hx.1
  have lb2 := hb.2
  have la2 := ha.2
  refine nat_of ?_
  unfold swapL sw
  rw [List.getElem?_set, List.getElem?_set]
  have gi := nat_get (names := ident n) (p := x) (by rw [ident_len]; exact hx)
  rw [ident_at hx] at gi
  by_cases h2 : x = b
  · subst h2
    rw [if_pos rfl, if_pos (by rw [List.length_set, ident_len]; omega)]
    by_cases h1 : x = a
    · rw [if_pos h1, h1]
    · rw [if_neg h1, if_pos rfl]
  · rw [if_neg (by omega)]
    by_cases h1 : x = a
    · subst h1
      rw [if_pos rfl, if_pos (by rw [ident_len]; omega), if_pos rfl]
    · rw [if_neg (by omega), if_neg h1, if_neg h2, gi]
theorem lt_turn {n : Nat} {tsD : D} {a b : Int} {pc : List Int} {acc : List (Int × Int)} {p q : Int} (hl : acc.length < 100000) (ha : InR n a) (hb : InR n b) (hp : InR n p) (hq : InR n q) :
    evSs L__law_twist_0 [.fz (.int n), .fz tsD, .fz (.int a), .fz (.int b), .fz (lstD pc), .ol ((swapL n a b).map .int), .ol (acc.map pairD), .fz (.int p), .fz (.int q)] = some (.next [.fz (.int n), .fz tsD, .fz (.int a), .fz (.int b), .fz (lstD pc), .ol ((swapL n a b).map .int), .ol ((acc ++ [twOne pc a b (p, q)]).map pairD), .fz (.int p), .fz (.int q)]) := by
  have e1 := at_names (names := swapL n a b) (p := p) (by rw [swapL_len]; exact hp)
  have e2 := at_names (names := swapL n a b) (p := q) (by rw [swapL_len]; exact hq)
  rw [swapL_at ha hb hp] at e1
  rw [swapL_at ha hb hq] at e2
  have tp : ∀ u v : Int, tupD [.int u, .int v] = some (pairD (u, v)) := fun u v => if_pos (small_le (by show 2 < 1000000; omega))
  unfold L__law_twist_0
  rw [evSs_cons, evS_ite]
  simp only [viewE_cons, viewE_nil, view_fz, view_ol, evT_or, evT_isin, evE_var, cellD_zero, cellD_succ, bind2_some, in_pc, Option.bind_some]
  by_cases h : p ∈ pc ∨ q ∈ pc
  · have e : (cond (decide (p ∈ pc)) (some true) (some (decide (q ∈ pc)))) = some true := by
      rcases h with h | h
      · rw [decide_eq_true h]; rfl
      · rw [decide_eq_true h]; cases decide (p ∈ pc) <;> rfl
    rw [e, Option.bind_some, cond_true, evSs_cons, evS_app, evE_tup]
    simp only [cellL_zero, cellL_succ, evA_cons, evA_nil, evE_oix, evE_var, cellD_zero, cellD_succ, oixD_int, e1, e2, bind2_some, Option.bind_some, tp, app_pair hl, Option.map_some, nx_some, seqO_next, evSs_nil, List.set_cons_succ, List.set_cons_zero]
    rw [show twOne pc a b (p, q) = (sw a b p, sw a b q) from if_pos h]
  · have h1 : ¬ p ∈ pc := fun z => h (.inl z)
    have h2 : ¬ q ∈ pc := fun z => h (.inr z)
    have e : (cond (decide (p ∈ pc)) (some true) (some (decide (q ∈ pc)))) = some false := by
      rw [decide_eq_false h1, decide_eq_false h2]; rfl
    rw [e, Option.bind_some, cond_false, evSs_cons, evS_app, evE_tup]
    simp only [cellL_zero, cellL_succ, evA_cons, evA_nil, evE_var, cellD_zero, cellD_succ, bind2_some, Option.bind_some, tp, app_pair hl, Option.map_some, nx_some, seqO_next, evSs_nil, List.set_cons_succ, List.set_cons_zero]
    rw [show twOne pc a b (p, q) = (p, q) from if_neg h]
theorem setL_int {xs : List Int} {k v : Int} (h : InR xs.length k) : setL (xs.map .int) (.int k) (.int v) = some ((xs.set k.toNat v).map .int) := by
  show (ixN (xs.map PyData.int).length k).map _ = _
  rw [List.length_map, ixN_nat h.1 h.2, Option.map_some, List.map_set]
theorem e_law_twist {n : Nat} {ts : List (Int × Int)} {a b : Int} (hn : n < 60) (hts : ts.length < 1000) (h : Ties n ts) (ha : InR n a) (hb : InR n b) (ho : others n a b ≠ []) : f__law_twist [.int n, .list (ts.map pairD), .int a, .int b] = some ((twist n ts a b).map pairD) := by
  obtain ⟨r, er⟩ := lawPieces_head h ho
  obtain ⟨ρ', e, acc, c7, c8, rfl, hacc⟩ := for_inv1 (as := asT (.tup [7, 8])) (body := evSs L__law_twist_0) (fun i ρ => ∃ (acc : List (Int × Int)) (c7 c8 : Cell), ρ = [.fz (.int n), .fz (.list (ts.map pairD)), .fz (.int a), .fz (.int b), .fz (lstD (piece n ts a b)), .ol ((swapL n a b).map .int), .ol (acc.map pairD), c7, c8] ∧ acc = (ts.take i).map (twOne (piece n ts a b) a b))
    (ts.map pairD) [.fz (.int n), .fz (.list (ts.map pairD)), .fz (.int a), .fz (.int b), .fz (lstD (piece n ts a b)), .ol ((swapL n a b).map .int), .ol [], .un, .un] ⟨[], .un, .un, rfl, rfl⟩ (by
      rintro i d ρ hd ⟨acc, c7, c8, rfl, hacc⟩
      rw [List.getElem?_map] at hd
      obtain ⟨⟨p, q⟩, hv, rfl⟩ := map_some' hd
      obtain ⟨r1, r2⟩ := h _ (List.mem_of_getElem? hv)
      have hal : acc.length < 100000 := by rw [hacc]; simp; omega
      exact ⟨_, lt_turn hal ha hb r1 r2, _, _, _, rfl, by rw [take_snoc hv, List.map_append, hacc]; rfl⟩)
  rw [List.length_map, List.take_length] at hacc
  have e0 : evE (.ix (.callF "_law_pieces_without" f__law_pieces_without (.cons (.var 0) (.cons (.var 1) (.cons (.var 2) (.cons (.var 3) .nil))))) (.cint 0)) [.fz (.int n), .fz (.list (ts.map pairD)), .fz (.int a), .fz (.int b), .un, .un, .un, .un, .un] = some (lstD (piece n ts a b)) := by
    rw [evE_ix, (callF_is (by simp only [evA_cons, evA_nil, evE_var, cellD_zero, cellD_succ, bind2_some]) (e_pieces (a := a) (b := b) hn hts h)).1, evE_cint, bind2_some, er, List.map_cons, ixD_list, at0]
  have e1 : evF (.lrng (.r1 (.var 0))) [.fz (.int n), .fz (.list (ts.map pairD)), .fz (.int a), .fz (.int b), .fz (lstD (piece n ts a b)), .un, .un, .un, .un] = some ((ident n).map .int) := (lrng_ok (n := n) (by simp only [evE_var, viewE_cons, view_fz, cellD_zero]) (by omega)).2
  have s1 := setL_int (xs := ident n) (k := a) (v := b) (by rw [ident_len]; exact ha)
  have s2 := setL_int (xs := (ident n).set a.toNat b) (k := b) (v := a) (by rw [List.length_set, ident_len]; exact hb)
  have es : evS S__law_twist_0 [.fz (.int n), .fz (.list (ts.map pairD)), .fz (.int a), .fz (.int b), .fz (lstD (piece n ts a b)), .ol ((swapL n a b).map .int), .ol [], .un, .un] = some (.next [.fz (.int n), .fz (.list (ts.map pairD)), .fz (.int a), .fz (.int b), .fz (lstD (piece n ts a b)), .ol ((swapL n a b).map .int), .ol (acc.map pairD), c7, c8]) := by
    unfold S__law_twist_0
    rw [evS_for_]
    simp only [evI_seq, evE_var, cellD_zero, cellD_succ, Option.bind_some, itemsD_list]
    exact e
  have st : start0 9 [.int n, .list (ts.map pairD), .int a, .int b] = [.fz (.int n), .fz (.list (ts.map pairD)), .fz (.int a), .fz (.int b), .un, .un, .un, .un, .un] := rfl
  unfold f__law_twist
  rw [runF_4, st]
  unfold b__law_twist
  rw [evSs_cons, evS_asg, e0, Option.map_some, nx_some, seqO_next]
  simp only [List.set_cons_succ, List.set_cons_zero]
  rw [evSs_cons, evS_asgF, e1, Option.map_some, nx_some, seqO_next]
  simp only [List.set_cons_succ, List.set_cons_zero]
  rw [evSs_cons, evS_swap]
  simp only [viewE_cons, viewE_nil, view_fz, view_un, view_ol, evE_var, cellD_zero, cellD_succ, cellL_zero, cellL_succ, Option.bind_some, flatD_int, bind2_some, bind3_some, s1, List.set_cons_succ, List.set_cons_zero, s2, Option.map_some, nx_some, seqO_next]
  rw [evSs_cons, evS_asgF, evF_lst, evA_nil, Option.bind_some, f_nil, Option.map_some, nx_some, seqO_next]
  simp only [List.set_cons_succ, List.set_cons_zero]
  have es' := es
  unfold swapL at es'
  rw [evSs_cons, es', seqO_next, evSs_cons, evS_retO]
  simp only [cellL_zero, cellL_succ, Option.map_some, seqO_retF, Option.bind_some]
  rw [hacc]
  rfl
/-! ### the question -/
theorem cop_ne_pairs (x y : List (Int × Int)) : copD .ne (.list (x.map pairD)) (.list (y.map pairD)) = some (!decide (x = y)) := by
  show (if (SeqAt.shaped _ && SeqAt.shaped _) = true then some (!PyData.eqv _ _) else none) = _
  rw [shaped_pairs, shaped_pairs, eqv_pairs]
  rfl
theorem cop_eq_pairs (x y : List (Int × Int)) : copD .eq (.list (x.map pairD)) (.list (y.map pairD)) = some (decide (x = y)) := by
  show (if (SeqAt.shaped _ && SeqAt.shaped _) = true then some (PyData.eqv _ _) else none) = _
  rw [shaped_pairs, shaped_pairs, eqv_pairs]
  rfl
theorem cop_ne_pair (x y : Int × Int) : copD .ne (pairD x) (pairD y) = some (!decide (x = y)) := by
  show (if (SeqAt.shaped (pairD x) && SeqAt.shaped (pairD y)) = true then some (!PyData.eqv (pairD x) (pairD y)) else none) = _
  rw [shaped_pair, shaped_pair, eqv_pair]
  rfl
theorem at_pairs {ts : List (Int × Int)} {i : Nat} {t : Int × Int} (h : ts[i]? = some t) : atI (ts.map pairD) (i : Int) = some (pairD t) := by
  refine at_nat (by omega) ?_
  rw [List.getElem?_map, Int.toNat_natCast, h]
  rfl
theorem in_two' (x a b : Int) : inD false (.int x) (.list [.int a, .int b]) = some (decide (x = a ∨ x = b)) := by
  have e := in_ints false x [a, b]
  rw [show ([a, b] : List Int).map PyData.int = [.int a, .int b] from rfl] at e
  rw [e]
  congr 1
  by_cases h1 : x = a <;> by_cases h2 : x = b <;> simp [h1, h2]
theorem others_sym (n : Nat) (a b : Int) : others n b a = others n a b := by
  unfold others
  refine List.filter_congr fun x _ => ?_
  rw [Bool.and_comm]
theorem told_turn {n : Nat} {ts : List (Int × Int)} {a b : Int} {c4 c5 : Cell} {i : Nat} (hi : i < ts.length) (h : Ties n ts) (ho : others n a b ≠ []) :
    evSs L__law_told_0 [.fz (.int n), .fz (.list (ts.map pairD)), .fz (.int a), .fz (.int b), c4, c5, .ol ((twist n ts a b).map pairD), .fz (.int (i : Nat))] = some (.next [.fz (.int n), .fz (.list (ts.map pairD)), .fz (.int a), .fz (.int b), c4, c5, .ol ((twist n ts a b).map pairD), .fz (.int (i : Nat))]) := by
  obtain ⟨t, ht⟩ : ∃ t, ts[i]? = some t := ⟨_, List.getElem?_eq_getElem hi⟩
  have ht2 : (twist n ts a b)[i]? = some (twOne (piece n ts a b) a b t) := by
    unfold twist
    rw [List.getElem?_map, ht]
    rfl
  have e1 := at_pairs ht
  have e2 := at_pairs ht2
  have l2 : ∀ x y : D, lenOk [x, y] = some [x, y] := fun x y => len_ok (by show 2 < 1000000; omega)
  have key : (cond (decide (t.1 = a ∨ t.1 = b)) (cond (decide (t.2 = a ∨ t.2 = b)) (some (!decide (twOne (piece n ts a b) a b t = t))) (some false)) (some false)) = some false := by
    by_cases h1 : t.1 = a ∨ t.1 = b
    · by_cases h2 : t.2 = a ∨ t.2 = b
      · rw [decide_eq_true h1, decide_eq_true h2, decide_eq_true (stays h ho h1 h2)]
        rfl
      · rw [decide_eq_false h2]
        cases decide (t.1 = a ∨ t.1 = b) <;> rfl
    · rw [decide_eq_false h1]
      rfl
  unfold L__law_told_0
  rw [evSs_cons, evS_ite]
  simp only [viewE_cons, viewE_nil, view_fz, view_ol, evT_and, evT_isin, evE_ix, evE_lst, evA_cons, evA_nil, evE_var, evE_cint, cellD_zero, cellD_succ, bind2_some, Option.bind_some, l2, Option.map_some, ixD_list, e1, e2, ixD_tuple, at0, at1, in_two', evT_cmp, cop_ne_pair, key, cond_false, evSs_nil, seqO_next]
theorem told_due {n : Nat} {ts : List (Int × Int)} {a b : Int} (hn : n < 60) (hts : ts.length < 900) (h : Ties n ts) (ha : InR n a) (hb : InR n b) (ho : others n a b ≠ []) : f__law_told [.int n, .list (ts.map pairD), .int a, .int b] = some (.bool true) := by
  have ho' : others n b a ≠ [] := by rw [others_sym]; exact ho
  have ht := twist_ties h ha hb
  have htl : (twist n ts a b).length = ts.length := by unfold twist; rw [List.length_map]
  have a1 := e_law_twist hn (by omega) h ha hb ho
  have a2 := e_twisted (a := a) (b := b) (n := n) (by omega) (by omega) h ho
  have a3 := e_twisted (a := b) (b := a) (n := n) (by omega) (by omega) h ho'
  rw [twist_sym] at a3
  have a4 := e_twisted (a := a) (b := b) (n := n) (by omega) (by rw [htl]; omega) ht ho
  rw [twist_twist h ho] at a4
  have small : ∀ t ∈ twist n ts a b, t.1.natAbs < 1000 ∧ t.2.natAbs < 1000 := fun t hh => by
    obtain ⟨⟨p1, p2⟩, p3, p4⟩ := ht t hh
    exact ⟨by omega, by omega⟩
  obtain ⟨rp, okr⟩ := repr_pairs (by rw [htl]; omega) small
  have lst : listF [.list (ts.map pairD)] = some (ts.map pairD) := rfl
  -- the parts
  let R : EnvD := [.fz (.int n), .fz (.list (ts.map pairD)), .fz (.int a), .fz (.int b), .fz (.list ((twist n ts a b).map pairD)), .fz (.list (ts.map pairD)), .ol ((twist n ts a b).map pairD), .un]
  have b1 : evE (.callF "_law_twist" f__law_twist (.cons (.var 0) (.cons (.var 1) (.cons (.var 2) (.cons (.var 3) .nil))))) [.fz (.int n), .fz (.list (ts.map pairD)), .fz (.int a), .fz (.int b), .un, .un, .un, .un] = some (.list ((twist n ts a b).map pairD)) :=
    (callF_is (by simp only [evA_cons, evA_nil, evE_var, cellD_zero, cellD_succ, bind2_some]) a1).1
  have b2 : evF (.callF "twisted" f_twisted (.cons (.var 0) (.cons (.var 5) (.cons (.var 2) (.cons (.var 3) .nil))))) [.fz (.int n), .fz (.list (ts.map pairD)), .fz (.int a), .fz (.int b), .fz (.list ((twist n ts a b).map pairD)), .fz (.list (ts.map pairD)), .un, .un] = some ((twist n ts a b).map pairD) :=
    (callF_is (by simp only [evA_cons, evA_nil, evE_var, cellD_zero, cellD_succ, bind2_some]) a2).2
  have vR : viewE R = [.fz (.int n), .fz (.list (ts.map pairD)), .fz (.int a), .fz (.int b), .fz (.list ((twist n ts a b).map pairD)), .fz (.list (ts.map pairD)), .fz (.list ((twist n ts a b).map pairD)), .un] := rfl
  have t1 : evT (.or (.cmp .ne (.var 5) (.var 1)) (.or (.not (.is .list (.var 6))) (.cmp .ne (.repr (.var 6)) (.repr (.var 4))))) (viewE R) = some false := by
    rw [vR]
    simp only [evT_or, evT_cmp, evT_not, evT_is, evE_var, evE_repr, cellD_zero, cellD_succ, bind2_some, Option.bind_some, cop_ne_pairs, decide_true, Bool.not_true, cond_false, rp, ne_self okr]
    rfl
  have t2 : evT (.or (.cmp .ne (.callF "twisted" f_twisted (.cons (.var 0) (.cons (.var 5) (.cons (.var 3) (.cons (.var 2) .nil))))) (.var 4)) (.cmp .ne (.callF "twisted" f_twisted (.cons (.var 0) (.cons (.var 4) (.cons (.var 2) (.cons (.var 3) .nil))))) (.var 1))) (viewE R) = some false := by
    rw [vR]
    rw [evT_or, evT_cmp, evT_cmp]
    rw [(callF_is (by simp only [evA_cons, evA_nil, evE_var, cellD_zero, cellD_succ, bind2_some]) a3).1, (callF_is (by simp only [evA_cons, evA_nil, evE_var, cellD_zero, cellD_succ, bind2_some]) a4).1]
    simp only [evE_var, cellD_zero, cellD_succ, bind2_some, Option.bind_some, cop_ne_pairs, decide_true, Bool.not_true, cond_false]
  obtain ⟨ρ', e, kk, rfl⟩ := for_inv1 (as := asT (.nm 7)) (body := evSs L__law_told_0) (fun i ρ => ∃ kk : Cell, ρ = [.fz (.int n), .fz (.list (ts.map pairD)), .fz (.int a), .fz (.int b), .fz (.list ((twist n ts a b).map pairD)), .fz (.list (ts.map pairD)), .ol ((twist n ts a b).map pairD), kk])
    ((ident ts.length).map .int) R ⟨.un, rfl⟩ (by
      rintro i d ρ hd ⟨kk, rfl⟩
      obtain ⟨hi, rfl⟩ := ident_get hd
      exact ⟨_, told_turn hi h ho, _, rfl⟩)
  have es : evS S__law_told_0 R = some (.next [.fz (.int n), .fz (.list (ts.map pairD)), .fz (.int a), .fz (.int b), .fz (.list ((twist n ts a b).map pairD)), .fz (.list (ts.map pairD)), .ol ((twist n ts a b).map pairD), kk]) := by
    unfold S__law_told_0
    rw [evS_for_, r1_it (n := ts.length) (by rw [vR]; simp only [evE_bfn, evA_cons, evA_nil, evE_var, cellD_zero, cellD_succ, bind2_some, Option.bind_some, bfn_len, List.length_map]) (by omega), Option.bind_some]
    exact e
  have tp : tupD [.int 0, .int 0] = some (pairD (0, 0)) := if_pos (small_le (by show 2 < 1000000; omega))
  have ap := app_pair (acc := twist n ts a b) (v := (0, 0)) (by rw [htl]; omega)
  have fin : evE (.cmp .eq (.callF "twisted" f_twisted (.cons (.var 0) (.cons (.var 5) (.cons (.var 2) (.cons (.var 3) .nil))))) (.var 4)) [.fz (.int n), .fz (.list (ts.map pairD)), .fz (.int a), .fz (.int b), .fz (.list ((twist n ts a b).map pairD)), .fz (.list (ts.map pairD)), .ol ((twist n ts a b ++ [(0, 0)]).map pairD), kk] = some (.bool true) := by
    rw [evE_cmp, (callF_is (by simp only [evA_cons, evA_nil, evE_var, cellD_zero, cellD_succ, bind2_some]) a2).1]
    simp only [evE_var, cellD_zero, cellD_succ, bind2_some, cop_eq_pairs, decide_true, Option.map_some]
  have st : start0 8 [.int n, .list (ts.map pairD), .int a, .int b] = [.fz (.int n), .fz (.list (ts.map pairD)), .fz (.int a), .fz (.int b), .un, .un, .un, .un] := rfl
  unfold f__law_told
  rw [runD_4, st]
  unfold b__law_told
  rw [evSs_cons, evS_asg, b1, Option.map_some, nx_some, seqO_next]
  simp only [List.set_cons_succ, List.set_cons_zero]
  rw [evSs_cons, evS_asg, evE_list]
  simp only [evE_var, cellD_zero, cellD_succ, Option.bind_some, lst, Option.map_some, nx_some, seqO_next, List.set_cons_succ, List.set_cons_zero]
  rw [evSs_cons, evS_asgF, b2, Option.map_some, nx_some, seqO_next]
  simp only [List.set_cons_succ, List.set_cons_zero]
  rw [evSs_cons, evS_ite]
  rw [show evT (.or (.cmp .ne (.var 5) (.var 1)) (.or (.not (.is .list (.var 6))) (.cmp .ne (.repr (.var 6)) (.repr (.var 4))))) (viewE [.fz (.int n), .fz (.list (ts.map pairD)), .fz (.int a), .fz (.int b), .fz (.list ((twist n ts a b).map pairD)), .fz (.list (ts.map pairD)), .ol ((twist n ts a b).map pairD), .un]) = some false from t1, Option.bind_some, cond_false, evSs_nil, seqO_next]
  rw [evSs_cons, evS_ite]
  rw [show evT (.or (.cmp .ne (.callF "twisted" f_twisted (.cons (.var 0) (.cons (.var 5) (.cons (.var 3) (.cons (.var 2) .nil))))) (.var 4)) (.cmp .ne (.callF "twisted" f_twisted (.cons (.var 0) (.cons (.var 4) (.cons (.var 2) (.cons (.var 3) .nil))))) (.var 1))) (viewE [.fz (.int n), .fz (.list (ts.map pairD)), .fz (.int a), .fz (.int b), .fz (.list ((twist n ts a b).map pairD)), .fz (.list (ts.map pairD)), .ol ((twist n ts a b).map pairD), .un]) = some false from t2, Option.bind_some, cond_false, evSs_nil, seqO_next]
  rw [evSs_cons, show evS S__law_told_0 [.fz (.int n), .fz (.list (ts.map pairD)), .fz (.int a), .fz (.int b), .fz (.list ((twist n ts a b).map pairD)), .fz (.list (ts.map pairD)), .ol ((twist n ts a b).map pairD), .un] = _ from es, seqO_next]
  rw [evSs_cons, evS_app, evE_tup]
  simp only [evA_cons, evA_nil, evE_cint, bind2_some, Option.bind_some, tp, cellL_zero, cellL_succ, ap, Option.map_some, nx_some, seqO_next, List.set_cons_succ, List.set_cons_zero]
  rw [evSs_cons, evS_ret, fin, Option.map_some, seqO_ret]
  rfl
end K90

set_option Elab.async false
set_option linter.all false
set_option maxRecDepth 100000
set_option autoImplicit false
set_option maxHeartbeats 1600000
/-! K90m7: the nets that the law draws. -/
namespace K90
open PySem L2 Fv
theorem e_cell {ds : List Int} (h : Draws ds) {k : Int} (h0 : 0 ≤ k) (hk : k < 1000003) : ∃ v, f__law_cell [lstD ds, .int k] = some (.int v) ∧ 0 ≤ v ∧ v < 1000003 := cell_ok h h0 hk
theorem pick {pl : List Int} (h : pl ≠ []) (v : Int) : ∃ x ∈ pl, bopI .mod v pl.length = some (v % pl.length) ∧ atI (pl.map PyData.int) (v % pl.length) = some (.int x) := by
  have hl : (0 : Int) < pl.length := by
    cases pl with
    | nil => exact absurd rfl h
    | cons a b => simp only [List.length_cons]; omega
  have h0 := Int.emod_nonneg v (b := pl.length) (by omega)
  have h1 := Int.emod_lt_of_pos v hl
  have lt : (v % (pl.length : Int)).toNat < pl.length := by omega
  refine ⟨pl[(v % (pl.length : Int)).toNat], List.getElem_mem lt, mod_ok hl, at_nat h0 ?_⟩
  rw [List.getElem?_map, List.getElem?_eq_getElem lt]
  rfl
theorem tup_pair (u v : Int) : tupD [.int u, .int v] = some (pairD (u, v)) := if_pos (small_le (by show 2 < 1000000; omega))
theorem lenOk2 (x y : D) : lenOk [x, y] = some [x, y] := len_ok (by show 2 < 1000000; omega)
theorem lenOk3 (x y z : D) : lenOk [x, y, z] = some [x, y, z] := len_ok (by show 3 < 1000000; omega)
theorem lenOk4 (x y z u : D) : lenOk [x, y, z, u] = some [x, y, z, u] := len_ok (by show 4 < 1000000; omega)
theorem at2 {α : Type} (x y z : α) (r : List α) : atI (x :: y :: z :: r) 2 = some z := at_nat (by decide) rfl
theorem side {v : Int} : ∃ pl : List Int, pl ≠ [] ∧ (∀ x ∈ pl, InR 6 x) ∧ atI [PyData.list [.int 0, .int 1, .int 2, .int 3], .list [.int 0, .int 1, .int 4, .int 5], .list [.int 0, .int 1]] (v % 3) = some (lstD pl) := by
  have h0 := Int.emod_nonneg v (b := 3) (by decide)
  have h1 := Int.emod_lt_of_pos v (b := 3) (by decide)
  have c : v % 3 = 0 ∨ v % 3 = 1 ∨ v % 3 = 2 := by omega
  rcases c with c | c | c <;> rw [c]
  · exact ⟨[0, 1, 2, 3], by simp, fun x hx => by simp at hx; unfold InR; omega, at0 _ _⟩
  · exact ⟨[0, 1, 4, 5], by simp, fun x hx => by simp at hx; unfold InR; omega, at1 _ _ _⟩
  · exact ⟨[0, 1], by simp, fun x hx => by simp at hx; unfold InR; omega, at2 _ _ _ _⟩
theorem two_turn {ds : List Int} (h : Draws ds) {m c5 c6 c7 : Cell} {acc : List (Int × Int)} {i : Nat} (hi : i < 100) (hl : acc.length < 1000) : ∃ (t : Int × Int) (d5 d6 d7 : Cell),
    evSs L__law_two_pieces_0 [.fz (lstD ds), .fz (.int 8), m, .ol (acc.map pairD), .fz (.int (i : Nat)), c5, c6, c7] = some (.next [.fz (lstD ds), .fz (.int 8), m, .ol ((acc ++ [t]).map pairD), .fz (.int (i : Nat)), d5, d6, d7]) ∧ InR 6 t.1 ∧ InR 6 t.2 := by
  obtain ⟨v, ev, v0, v1⟩ := e_cell h (k := 8 + (i : Int)) (by omega) (by omega)
  have m1 : bopI .mul 19 (i : Int) = some (19 * (i : Int)) := mul_sm (by decide) (by omega)
  obtain ⟨pl, ne, hpl, es⟩ := side (v := v + 19 * (i : Int))
  obtain ⟨x, hx, mx, ax⟩ := pick ne ((v + 19 * (i : Int)) / 3)
  obtain ⟨y, hy, my, ay⟩ := pick ne ((v + 19 * (i : Int)) / 15)
  have f3 : bopI .fdiv (v + 19 * (i : Int)) 3 = some ((v + 19 * (i : Int)) / 3) := fdiv_sm (by decide) (by decide)
  have f15 : bopI .fdiv (v + 19 * (i : Int)) 15 = some ((v + 19 * (i : Int)) / 15) := fdiv_sm (by decide) (by decide)
  have md : bopI .mod (v + 19 * (i : Int)) 3 = some ((v + 19 * (i : Int)) % 3) := mod_ok (by decide)
  refine ⟨(x, y), .fz (.int (v + 19 * (i : Int))), .fz (.int ((v + 19 * (i : Int)) % 3)), .fz (lstD pl), ?_, hpl x hx, hpl y hy⟩
  have ec : evE (.call "_law_cell" f__law_cell (.cons (.var 0) (.cons (.bin .add (.var 1) (.var 4)) .nil))) [.fz (lstD ds), .fz (.int 8), m, .ol (acc.map pairD), .fz (.int (i : Nat)), c5, c6, c7] = some (.int v) :=
    call_is (by simp only [evA_cons, evA_nil, evE_bin, evE_var, cellD_zero, cellD_succ, bind2_some, bopD_int, bopI_add, Option.map_some]) ev
  have ap := app_pair (acc := acc) (v := (x, y)) (by omega)
  have len : bfnD .len [lstD pl] = some (.int (pl.length : Int)) := by rw [bfn_len, List.length_map]
  unfold L__law_two_pieces_0
  rw [evSs_cons, evS_asg, evE_bin, ec]
  simp only [evE_bin, evE_cint, evE_var, cellD_zero, cellD_succ, bind2_some, bopD_int, bopI_add, m1, Option.map_some, nx_some, seqO_next, List.set_cons_succ, List.set_cons_zero]
  rw [evSs_cons, evS_asg]
  simp only [evE_bin, evE_cint, evE_var, cellD_zero, cellD_succ, bind2_some, bopD_int, md, Option.map_some, nx_some, seqO_next, List.set_cons_succ, List.set_cons_zero]
  rw [evSs_cons, evS_asg]
  simp only [evE_ix, evE_lst, evA_cons, evA_nil, evE_cint, evE_var, cellD_zero, cellD_succ, bind2_some, Option.bind_some, lenOk2, lenOk3, lenOk4, Option.map_some, ixD_list, es, nx_some, seqO_next, List.set_cons_succ, List.set_cons_zero]
  rw [evSs_cons, evS_app]
  simp only [cellL_zero, cellL_succ, evE_tup, evA_cons, evA_nil, evE_ix, evE_bin, evE_bfn, evE_cint, evE_var, cellD_zero, cellD_succ, bind2_some, Option.bind_some, bopD_int, f3, f15, len, mx, my, Option.map_some, ixD_list, ax, ay, tup_pair, ap, nx_some, seqO_next, List.set_cons_succ, List.set_cons_zero, evSs_nil]
theorem e_two {ds : List Int} (h : Draws ds) {m : Nat} (hm : m < 100) : ∃ ts : List (Int × Int), f__law_two_pieces [lstD ds, .int 8, .int m] = some (ts.map pairD) ∧ ts.length = m ∧ Ties 6 ts := by
  obtain ⟨ρ', e, acc, c4, c5, c6, c7, rfl, hl, ht⟩ := for_inv1 (as := asT (.nm 4)) (body := evSs L__law_two_pieces_0) (fun i ρ => ∃ (acc : List (Int × Int)) (c4 c5 c6 c7 : Cell), ρ = [.fz (lstD ds), .fz (.int 8), .fz (.int m), .ol (acc.map pairD), c4, c5, c6, c7] ∧ acc.length = i ∧ Ties 6 acc)
    ((ident m).map .int) [.fz (lstD ds), .fz (.int 8), .fz (.int m), .ol [], .un, .un, .un, .un] ⟨[], .un, .un, .un, .un, rfl, rfl, fun t ht => (List.not_mem_nil ht).elim⟩ (by
      rintro i d ρ hd ⟨acc, c4, c5, c6, c7, rfl, hl, ht⟩
      obtain ⟨hi, rfl⟩ := ident_get hd
      obtain ⟨t, d5, d6, d7, et, t1, t2⟩ := two_turn h (m := .fz (.int m)) (c5 := c5) (c6 := c6) (c7 := c7) (acc := acc) (i := i) (by omega) (by omega)
      refine ⟨_, et, acc ++ [t], _, d5, d6, d7, rfl, by rw [List.length_append, hl]; rfl, fun u hu => ?_⟩
      rcases List.mem_append.mp hu with z | z
      · exact ht u z
      · rw [List.mem_singleton.mp z]; exact ⟨t1, t2⟩)
  rw [List.length_map, ident_len] at hl
  refine ⟨acc, ?_, hl, ht⟩
  have es : evS S__law_two_pieces_0 [.fz (lstD ds), .fz (.int 8), .fz (.int m), .ol [], .un, .un, .un, .un] = some (.next [.fz (lstD ds), .fz (.int 8), .fz (.int m), .ol (acc.map pairD), c4, c5, c6, c7]) := by
    unfold S__law_two_pieces_0
    rw [evS_for_, r1_it (n := m) (by simp only [evE_var, viewE_cons, view_fz, cellD_zero, cellD_succ]) (by omega), Option.bind_some]
    exact e
  have st : start0 8 [lstD ds, .int 8, .int m] = [.fz (lstD ds), .fz (.int 8), .fz (.int m), .un, .un, .un, .un, .un] := rfl
  unfold f__law_two_pieces
  rw [runF_3, st]
  unfold b__law_two_pieces
  rw [evSs_cons, evS_asgF, evF_lst, evA_nil, Option.bind_some, f_nil, Option.map_some, nx_some, seqO_next]
  simp only [List.set_cons_succ, List.set_cons_zero]
  rw [evSs_cons, es, seqO_next, evSs_cons, evS_retO]
  simp only [cellL_zero, cellL_succ, Option.map_some, seqO_retF, Option.bind_some]
  rfl
/-! ### ties -/
theorem ties_turn {ds : List Int} (h : Draws ds) {n : Nat} (hn : 0 < n) (hn2 : n < 100) {m c7 c8 c9 : Cell} {acc : List (Int × Int)} {i : Nat} (hi : i < 100) (hl : acc.length < 1000) : ∃ (t : Int × Int) (d7 d8 d9 : Cell),
    evSs L__law_ties_0 [.fz (lstD ds), .fz (.int 40), .fz (.int n), m, .fz (.bool false), .ol (acc.map pairD), .fz (.int (i : Nat)), c7, c8, c9] = some (.next [.fz (lstD ds), .fz (.int 40), .fz (.int n), m, .fz (.bool false), .ol ((acc ++ [t]).map pairD), .fz (.int (i : Nat)), d7, d8, d9]) ∧ InR n t.1 ∧ InR n t.2 := by
  obtain ⟨v, ev, v0, v1⟩ := e_cell h (k := 40 + (i : Int)) (by omega) (by omega)
  have m1 : bopI .mul 13 (i : Int) = some (13 * (i : Int)) := mul_sm (by decide) (by omega)
  have pn : (0 : Int) < n := by omega
  have a1 : bopI .mod (v + 13 * (i : Int)) n = some ((v + 13 * (i : Int)) % n) := mod_ok pn
  have a2 : bopI .fdiv (v + 13 * (i : Int)) n = some ((v + 13 * (i : Int)) / n) := fdiv_sm pn (by omega)
  have a3 : bopI .fdiv ((v + 13 * (i : Int)) / n) 3 = some ((v + 13 * (i : Int)) / n / 3) := fdiv_sm (by decide) (by decide)
  have a4 : bopI .mod ((v + 13 * (i : Int)) / n / 3) n = some ((v + 13 * (i : Int)) / n / 3 % n) := mod_ok pn
  refine ⟨((v + 13 * (i : Int)) % n, (v + 13 * (i : Int)) / n / 3 % n), .fz (.int (v + 13 * (i : Int))), .fz (.int ((v + 13 * (i : Int)) % n)), .fz (.int ((v + 13 * (i : Int)) / n / 3 % n)), ?_, ⟨Int.emod_nonneg _ (by omega), Int.emod_lt_of_pos _ pn⟩, ⟨Int.emod_nonneg _ (by omega), Int.emod_lt_of_pos _ pn⟩⟩
  have ec : evE (.call "_law_cell" f__law_cell (.cons (.var 0) (.cons (.bin .add (.var 1) (.var 6)) .nil))) [.fz (lstD ds), .fz (.int 40), .fz (.int n), m, .fz (.bool false), .ol (acc.map pairD), .fz (.int (i : Nat)), c7, c8, c9] = some (.int v) :=
    call_is (by simp only [evA_cons, evA_nil, evE_bin, evE_var, cellD_zero, cellD_succ, bind2_some, bopD_int, bopI_add, Option.map_some]) ev
  have ap := app_pair (acc := acc) (v := ((v + 13 * (i : Int)) % n, (v + 13 * (i : Int)) / n / 3 % n)) (by omega)
  have tb : truthD (.bool false) = some false := rfl
  unfold L__law_ties_0
  rw [evSs_cons, evS_asg, evE_bin, ec]
  simp only [evE_bin, evE_cint, evE_var, cellD_zero, cellD_succ, bind2_some, bopD_int, bopI_add, m1, Option.map_some, nx_some, seqO_next, List.set_cons_succ, List.set_cons_zero]
  rw [evSs_cons, evS_par]
  simp only [evA_cons, evA_nil, evE_bin, evE_cint, evE_var, cellD_zero, cellD_succ, bind2_some, bopD_int, a1, a2, a3, a4, Option.map_some, Option.bind_some, setAll_cons, setAll_nil, nx_some, seqO_next, List.set_cons_succ, List.set_cons_zero]
  rw [evSs_cons, evS_ite]
  simp only [viewE_cons, viewE_nil, view_fz, view_ol, evT_and, evT_var, cellD_zero, cellD_succ, Option.bind_some, tb, cond_false, evSs_nil, seqO_next]
  rw [evSs_cons, evS_app]
  simp only [cellL_zero, cellL_succ, evE_tup, evA_cons, evA_nil, evE_var, cellD_zero, cellD_succ, bind2_some, Option.bind_some, tup_pair, ap, Option.map_some, nx_some, seqO_next, List.set_cons_succ, List.set_cons_zero, evSs_nil]
theorem e_ties {ds : List Int} (h : Draws ds) {n m : Nat} (hn : 0 < n) (hn2 : n < 100) (hm : m < 100) : ∃ ts : List (Int × Int), f__law_ties [lstD ds, .int 40, .int n, .int m, .bool false] = some (ts.map pairD) ∧ ts.length = m ∧ Ties n ts := by
  obtain ⟨ρ', e, acc, c4, c5, c6, c7, rfl, hl, ht⟩ := for_inv1 (as := asT (.nm 6)) (body := evSs L__law_ties_0) (fun i ρ => ∃ (acc : List (Int × Int)) (c4 c5 c6 c7 : Cell), ρ = [.fz (lstD ds), .fz (.int 40), .fz (.int n), .fz (.int m), .fz (.bool false), .ol (acc.map pairD), c4, c5, c6, c7] ∧ acc.length = i ∧ Ties n acc)
    ((ident m).map .int) [.fz (lstD ds), .fz (.int 40), .fz (.int n), .fz (.int m), .fz (.bool false), .ol [], .un, .un, .un, .un] ⟨[], .un, .un, .un, .un, rfl, rfl, fun t ht => (List.not_mem_nil ht).elim⟩ (by
      rintro i d ρ hd ⟨acc, c4, c5, c6, c7, rfl, hl, ht⟩
      obtain ⟨hi, rfl⟩ := ident_get hd
      obtain ⟨t, d5, d6, d7, et, t1, t2⟩ := ties_turn h hn hn2 (m := .fz (.int m)) (c7 := c5) (c8 := c6) (c9 := c7) (acc := acc) (i := i) (by omega) (by omega)
      refine ⟨_, et, acc ++ [t], _, d5, d6, d7, rfl, by rw [List.length_append, hl]; rfl, fun u hu => ?_⟩
      rcases List.mem_append.mp hu with z | z
      · exact ht u z
      · rw [List.mem_singleton.mp z]; exact ⟨t1, t2⟩)
  rw [List.length_map, ident_len] at hl
  refine ⟨acc, ?_, hl, ht⟩
  have es : evS S__law_ties_0 [.fz (lstD ds), .fz (.int 40), .fz (.int n), .fz (.int m), .fz (.bool false), .ol [], .un, .un, .un, .un] = some (.next [.fz (lstD ds), .fz (.int 40), .fz (.int n), .fz (.int m), .fz (.bool false), .ol (acc.map pairD), c4, c5, c6, c7]) := by
    unfold S__law_ties_0
    rw [evS_for_, r1_it (n := m) (by simp only [evE_var, viewE_cons, view_fz, cellD_zero, cellD_succ]) (by omega), Option.bind_some]
    exact e
  have st : start0 10 [lstD ds, .int 40, .int n, .int m, .bool false] = [.fz (lstD ds), .fz (.int 40), .fz (.int n), .fz (.int m), .fz (.bool false), .un, .un, .un, .un, .un] := rfl
  unfold f__law_ties
  rw [runF_5, st]
  unfold b__law_ties
  rw [evSs_cons, evS_asgF, evF_lst, evA_nil, Option.bind_some, f_nil, Option.map_some, nx_some, seqO_next]
  simp only [List.set_cons_succ, List.set_cons_zero]
  rw [evSs_cons, es, seqO_next, evSs_cons, evS_retO]
  simp only [cellL_zero, cellL_succ, Option.map_some, seqO_retF, Option.bind_some]
  rfl
end K90

set_option Elab.async false
set_option linter.all false
set_option maxRecDepth 100000
set_option autoImplicit false
set_option maxHeartbeats 1600000
/-! K90m8: places numbered anew; the wide nets. -/
namespace K90
open PySem L2 Fv
theorem perm_len {n : Nat} {names : List Int} (h : names.Perm (ident n)) : names.length = n := by rw [h.length_eq, ident_len]
theorem perm_at {n : Nat} {names : List Int} (h : names.Perm (ident n)) {p : Int} (hp : InR n p) : InR n (nat_ names p) := by
  have e := nat_get (names := names) (p := p) (by rw [perm_len h]; exact hp)
  exact ident_mem.mp (h.mem_iff.mp (List.mem_of_getElem? e))
theorem perm_ne {n : Nat} {names : List Int} (h : names.Perm (ident n)) {p q : Int} (hp : InR n p) (hq : InR n q) (ne : p ≠ q) : nat_ names p ≠ nat_ names q := by
  have e1 := nat_get (names := names) (p := p) (by rw [perm_len h]; exact hp)
  have e2 := nat_get (names := names) (p := q) (by rw [perm_len h]; exact hq)
  have nd : names.Nodup := h.nodup_iff.mpr ((ident_up n).imp fun hlt => by omega)
  intro z
  rw [z] at e1
  obtain ⟨l1, _⟩ := List.getElem?_eq_some_iff.mp e1
  have := (List.getElem?_inj l1 nd).mp (e1.trans e2.symm)
  have := hp.1
  have := hq.1
  omega
def moveL (names : List Int) (ts : List (Int × Int)) : List (Int × Int) := ts.map fun t => (nat_ names t.1, nat_ names t.2)
theorem move_ties {n : Nat} {names : List Int} {ts : List (Int × Int)} (h : names.Perm (ident n)) (ht : Ties n ts) : Ties n (moveL names ts) := fun t hm => by
  obtain ⟨u, hu, rfl⟩ := List.mem_map.mp hm
  exact ⟨perm_at h (ht u hu).1, perm_at h (ht u hu).2⟩
theorem ren_turn {ds : List Int} (h : Draws ds) {m : Cell} {acc : List Int} {i : Nat} (hi : i < 100) (hl : acc.length = i) (hp : acc.Perm (ident i)) : ∃ acc' : List Int,
    evSs L__law_renamed_0 [.fz (lstD ds), .fz (.int 30), m, .ol (acc.map .int), .fz (.int (i : Nat))] = some (.next [.fz (lstD ds), .fz (.int 30), m, .ol (acc'.map .int), .fz (.int (i : Nat))]) ∧ acc'.Perm (ident (i + 1)) := by
  obtain ⟨v, ev, v0, v1⟩ := e_cell h (k := 30 + (i : Int)) (by omega) (by omega)
  have f3 : bopI .fdiv v 3 = some (v / 3) := fdiv_sm (by decide) (by decide)
  have pi : (0 : Int) < (i : Int) + 1 := by omega
  have md : bopI .mod (v / 3) ((i : Int) + 1) = some (v / 3 % ((i : Int) + 1)) := mod_ok pi
  have k0 := Int.emod_nonneg (v / 3) (b := (i : Int) + 1) (by omega)
  have k1 := Int.emod_lt_of_pos (v / 3) pi
  have ec : evE (.call "_law_cell" f__law_cell (.cons (.var 0) (.cons (.bin .add (.var 1) (.var 4)) .nil))) (viewE [.fz (lstD ds), .fz (.int 30), m, .ol (acc.map .int), .fz (.int (i : Nat))]) = some (.int v) :=
    call_is (by simp only [viewE_cons, viewE_nil, view_fz, view_ol, evA_cons, evA_nil, evE_bin, evE_var, cellD_zero, cellD_succ, bind2_some, bopD_int, bopI_add, Option.map_some]) ev
  have ins : insL (acc.map .int) (.int (v / 3 % ((i : Int) + 1))) (.int (i : Nat)) = some ((acc.take (v / 3 % ((i : Int) + 1)).toNat ++ [(i : Int)] ++ acc.drop (v / 3 % ((i : Int) + 1)).toNat).map .int) := by
    have c : (acc.map PyData.int).length < sizeLine ∧ 0 ≤ v / 3 % ((i : Int) + 1) ∧ v / 3 % ((i : Int) + 1) < 2 ^ 63 := ⟨small_lt (by rw [List.length_map]; omega), k0, by omega⟩
    refine Eq.trans (if_pos c) ?_
    rw [List.map_append, List.map_append, List.map_take, List.map_drop]
    rfl
  refine ⟨acc.take (v / 3 % ((i : Int) + 1)).toNat ++ [(i : Int)] ++ acc.drop (v / 3 % ((i : Int) + 1)).toNat, ?_, ?_⟩
  · unfold L__law_renamed_0
    rw [evSs_cons, evS_insV, evE_bin, evE_bin, ec]
    simp only [viewE_cons, viewE_nil, view_fz, view_ol, evE_bin, evE_cint, evE_var, cellD_zero, cellD_succ, cellL_zero, cellL_succ, bind2_some, bind3_some, bopD_int, bopI_add, f3, md, Option.map_some, Option.bind_some, flatD_int, ins, nx_some, seqO_next, List.set_cons_succ, List.set_cons_zero, evSs_nil]
  · rw [ident_succ]
    have p1 : (acc.take (v / 3 % ((i : Int) + 1)).toNat ++ [(i : Int)] ++ acc.drop (v / 3 % ((i : Int) + 1)).toNat).Perm ((i : Int) :: acc) := by
      rw [List.append_assoc]
      refine List.perm_middle.trans ?_
      show ((i : Int) :: (acc.take (v / 3 % ((i : Int) + 1)).toNat ++ acc.drop (v / 3 % ((i : Int) + 1)).toNat)).Perm _
      rw [List.take_append_drop]
    exact p1.trans ((hp.cons _).trans (List.perm_append_singleton _ _).symm)
theorem e_renamed' {ds : List Int} (h : Draws ds) {n : Nat} (hn : n < 100) : ∃ names : List Int, f__law_renamed [lstD ds, .int 30, .int n] = some (names.map .int) ∧ names.Perm (ident n) := by
  obtain ⟨ρ', e, acc, c4, rfl, hp⟩ := for_inv1 (as := asT (.nm 4)) (body := evSs L__law_renamed_0) (fun i ρ => ∃ (acc : List Int) (c4 : Cell), ρ = [.fz (lstD ds), .fz (.int 30), .fz (.int n), .ol (acc.map .int), c4] ∧ acc.Perm (ident i))
    ((ident n).map .int) [.fz (lstD ds), .fz (.int 30), .fz (.int n), .ol [], .un] ⟨[], .un, rfl, List.Perm.refl _⟩ (by
      rintro i d ρ hd ⟨acc, c4, rfl, hp⟩
      obtain ⟨hi, rfl⟩ := ident_get hd
      obtain ⟨acc', et, hp'⟩ := ren_turn h (m := .fz (.int n)) (by omega) (perm_len hp) hp
      exact ⟨_, et, acc', _, rfl, hp'⟩)
  rw [List.length_map, ident_len] at hp
  refine ⟨acc, ?_, hp⟩
  have es : evS S__law_renamed_0 [.fz (lstD ds), .fz (.int 30), .fz (.int n), .ol [], .un] = some (.next [.fz (lstD ds), .fz (.int 30), .fz (.int n), .ol (acc.map .int), c4]) := by
    unfold S__law_renamed_0
    rw [evS_for_, r1_it (n := n) (by simp only [evE_var, viewE_cons, view_fz, cellD_zero, cellD_succ]) (by omega), Option.bind_some]
    exact e
  have st : start0 5 [lstD ds, .int 30, .int n] = [.fz (lstD ds), .fz (.int 30), .fz (.int n), .un, .un] := rfl
  unfold f__law_renamed
  rw [runF_3, st]
  unfold b__law_renamed
  rw [evSs_cons, evS_asgF, evF_lst, evA_nil, Option.bind_some, f_nil, Option.map_some, nx_some, seqO_next]
  simp only [List.set_cons_succ, List.set_cons_zero]
  rw [evSs_cons, es, seqO_next, evSs_cons, evS_retO]
  simp only [cellL_zero, cellL_succ, Option.map_some, seqO_retF, Option.bind_some]
  rfl
/-! ### wide -/
def rg (lo hi : Int) : List Int := (List.range (hi - lo).toNat).map fun i => lo + (i : Nat)
theorem rg_mem {lo hi x : Int} (h : x ∈ rg lo hi) : lo ≤ x ∧ x < hi := by
  obtain ⟨i, hi', rfl⟩ := List.mem_map.mp h
  have := List.mem_range.mp hi'
  omega
theorem rg_len (lo hi : Int) : (rg lo hi).length = (hi - lo).toNat := by unfold rg; rw [List.length_map, List.length_range]
theorem r2_ok {m n : Int} (h1 : -(2 ^ 62) ≤ m) (h2 : m < 2 ^ 62) (h3 : -(2 ^ 62) ≤ n) (h4 : n < 2 ^ 62) : r2F (.int m) (.int n) = some (rngD m (n - m).toNat) := if_pos ⟨⟨h1, h2⟩, ⟨h3, h4⟩⟩
theorem lrng2 {ρ : EnvD} {a b : Ex} {lo hi : Int} (ha : evE a (viewE ρ) = some (.int lo)) (hb : evE b (viewE ρ) = some (.int hi)) (h1 : -1000 < lo) (h2 : lo < 1000) (h3 : -1000 < hi) (h4 : hi < 1000) : evE (.lrng (.r2 a b)) ρ = some (lstD (rg lo hi)) ∧ evI (.r2 a b) ρ = some ((rg lo hi).map .int) := by
  have e : evI (.r2 a b) ρ = some ((rg lo hi).map .int) := by
    rw [evI_r2, ha, hb, bind2_some, r2_ok (by omega) (by omega) (by omega) (by omega), rngD_map]
    rfl
  refine ⟨?_, e⟩
  rw [evE_lrng, e, Option.bind_some]
  rw [show rngOk ((rg lo hi).map PyData.int) = some ((rg lo hi).map PyData.int) from if_pos (by rw [List.length_map, rg_len]; omega), Option.map_some]
theorem wide_turn {ds : List Int} (h : Draws ds) {n : Nat} {half : Int} (hn : 6 < n) (hn2 : n < 100) (hh : 2 < half) (hh2 : half < n) {c5 c6 c7 c8 c9 c10 c11 : Cell} {acc : List (Int × Int)} {i : Nat} (hi : i < 100) (hl : acc.length < 1000) : ∃ (t : Int × Int) (d5 d6 : Cell),
    evSs L__law_wide_0 [.fz (lstD ds), .fz (.int n), .fz (.int half), .ol (acc.map pairD), .fz (.int (i : Nat)), c5, c6, c7, c8, c9, c10, c11] = some (.next [.fz (lstD ds), .fz (.int n), .fz (.int half), .ol ((acc ++ [t]).map pairD), .fz (.int (i : Nat)), d5, d6, c7, c8, c9, c10, c11]) ∧ InR n t.1 ∧ InR n t.2 := by
  obtain ⟨v, ev, v0, v1⟩ := e_cell h (k := 20 + (i : Int)) (by omega) (by omega)
  have m1 : bopI .mul 19 (i : Int) = some (19 * (i : Int)) := mul_sm (by decide) (by omega)
  have md : bopI .mod (v + 19 * (i : Int)) 2 = some ((v + 19 * (i : Int)) % 2) := mod_ok (by decide)
  obtain ⟨pl, ne, hpl, es⟩ : ∃ pl : List Int, pl ≠ [] ∧ (∀ x ∈ pl, InR n x) ∧ atI [lstD ([0, 1] ++ rg 2 half), lstD ([0, 1] ++ rg half n)] ((v + 19 * (i : Int)) % 2) = some (lstD pl) := by
    have h0 := Int.emod_nonneg (v + 19 * (i : Int)) (b := 2) (by decide)
    have h1 := Int.emod_lt_of_pos (v + 19 * (i : Int)) (b := 2) (by decide)
    have c : (v + 19 * (i : Int)) % 2 = 0 ∨ (v + 19 * (i : Int)) % 2 = 1 := by omega
    rcases c with c | c <;> rw [c]
    · refine ⟨[0, 1] ++ rg 2 half, by simp, fun x hx => ?_, at0 _ _⟩
      rcases List.mem_append.mp hx with z | z
      · simp at z; unfold InR; omega
      · have := rg_mem z; unfold InR; omega
    · refine ⟨[0, 1] ++ rg half n, by simp, fun x hx => ?_, at1 _ _ _⟩
      rcases List.mem_append.mp hx with z | z
      · simp at z; unfold InR; omega
      · have := rg_mem z; unfold InR; omega
  obtain ⟨x, hx, mx, ax⟩ := pick ne ((v + 19 * (i : Int)) / 2)
  obtain ⟨y, hy, my, ay⟩ := pick ne ((v + 19 * (i : Int)) / 31)
  have f2 : bopI .fdiv (v + 19 * (i : Int)) 2 = some ((v + 19 * (i : Int)) / 2) := fdiv_sm (by decide) (by decide)
  have f31 : bopI .fdiv (v + 19 * (i : Int)) 31 = some ((v + 19 * (i : Int)) / 31) := fdiv_sm (by decide) (by decide)
  refine ⟨(x, y), .fz (.int (v + 19 * (i : Int))), .fz (lstD pl), ?_, hpl x hx, hpl y hy⟩
  have ec : evE (.call "_law_cell" f__law_cell (.cons (.var 0) (.cons (.bin .add (.cint 20) (.var 4)) .nil))) [.fz (lstD ds), .fz (.int n), .fz (.int half), .ol (acc.map pairD), .fz (.int (i : Nat)), c5, c6, c7, c8, c9, c10, c11] = some (.int v) :=
    call_is (by simp only [evA_cons, evA_nil, evE_bin, evE_cint, evE_var, cellD_zero, cellD_succ, bind2_some, bopD_int, bopI_add, Option.map_some]) ev
  have ap := app_pair (acc := acc) (v := (x, y)) (by omega)
  have len : bfnD .len [lstD pl] = some (.int (pl.length : Int)) := by rw [bfn_len, List.length_map]
  have l1 := (lrng2 (ρ := [.fz (lstD ds), .fz (.int n), .fz (.int half), .ol (acc.map pairD), .fz (.int (i : Nat)), .fz (.int (v + 19 * (i : Int))), c6, c7, c8, c9, c10, c11]) (a := .cint 2) (b := .var 2) (lo := 2) (hi := half) rfl rfl (by omega) (by omega) (by omega) (by omega)).1
  have l2 := (lrng2 (ρ := [.fz (lstD ds), .fz (.int n), .fz (.int half), .ol (acc.map pairD), .fz (.int (i : Nat)), .fz (.int (v + 19 * (i : Int))), c6, c7, c8, c9, c10, c11]) (a := .var 2) (b := .var 1) (lo := half) (hi := n) rfl rfl (by omega) (by omega) (by omega) (by omega)).1
  have k1 : bopD .add (.list [.int 0, .int 1]) (lstD (rg 2 half)) = some (lstD ([0, 1] ++ rg 2 half)) := bop_cat (xs := [0, 1]) (by rw [rg_len]; show 2 + _ < 100000; omega)
  have k2 : bopD .add (.list [.int 0, .int 1]) (lstD (rg half n)) = some (lstD ([0, 1] ++ rg half n)) := bop_cat (xs := [0, 1]) (by rw [rg_len]; show 2 + _ < 100000; omega)
  unfold L__law_wide_0
  rw [evSs_cons, evS_asg, evE_bin, ec]
  simp only [evE_bin, evE_cint, evE_var, cellD_zero, cellD_succ, bind2_some, bopD_int, bopI_add, m1, Option.map_some, nx_some, seqO_next, List.set_cons_succ, List.set_cons_zero]
  rw [evSs_cons, evS_asg, evE_ix, evE_lst, evA_cons, evA_cons, evA_nil, evE_bin, evE_bin, l1, l2]
  simp only [evE_lst, evE_bin, evA_cons, evA_nil, evE_cint, evE_var, cellD_zero, cellD_succ, bind2_some, Option.bind_some, lenOk2, Option.map_some, k1, k2, bopD_int, md, ixD_list, es, nx_some, seqO_next, List.set_cons_succ, List.set_cons_zero]
  rw [evSs_cons, evS_app]
  simp only [cellL_zero, cellL_succ, evE_tup, evA_cons, evA_nil, evE_ix, evE_bin, evE_bfn, evE_cint, evE_var, cellD_zero, cellD_succ, bind2_some, Option.bind_some, bopD_int, f2, f31, len, mx, my, Option.map_some, ixD_list, ax, ay, tup_pair, ap, nx_some, seqO_next, List.set_cons_succ, List.set_cons_zero, evSs_nil]
theorem swap_perm {n : Nat} {names : List Int} (h : names.Perm (ident n)) {p q : Int} (hp : InR n p) (hq : InR n q) : ((names.set p.toNat (nat_ names q)).set q.toNat (nat_ names p)).Perm (ident n) := by
  have e1 := nat_get (names := names) (p := p) (by rw [perm_len h]; exact hp)
  have e2 := nat_get (names := names) (p := q) (by rw [perm_len h]; exact hq)
  obtain ⟨l1, g1⟩ := List.getElem?_eq_some_iff.mp e1
  obtain ⟨l2, g2⟩ := List.getElem?_eq_some_iff.mp e2
  rw [← g1, ← g2]
  exact (List.set_set_perm l1 l2).trans h
theorem wide_swap {ds : List Int} (h : Draws ds) {n : Nat} {names : List Int} (hn2 : n < 100) (hp : names.Perm (ident n)) {c1 c2 c3 c4 c5 c6 c9 c10 c11 : Cell} {k : Int} (hk0 : 0 ≤ k) (hk : k < n) : ∃ (names' : List Int) (d9 : Cell),
    evSs L__law_wide_1 [.fz (lstD ds), c1, c2, c3, c4, c5, c6, .ol (names.map .int), .fz (.int k), c9, c10, c11] = some (.next [.fz (lstD ds), c1, c2, c3, c4, c5, c6, .ol (names'.map .int), .fz (.int k), d9, c10, c11]) ∧ names'.Perm (ident n) := by
  obtain ⟨v, ev, v0, v1⟩ := e_cell h (k := 40 + k) (by omega) (by omega)
  have pk : (0 : Int) < k + 1 := by omega
  have md : bopI .mod v (k + 1) = some (v % (k + 1)) := mod_ok pk
  have o0 := Int.emod_nonneg v (b := k + 1) (by omega)
  have o1 := Int.emod_lt_of_pos v pk
  have rk : InR n k := ⟨hk0, hk⟩
  have ro : InR n (v % (k + 1)) := ⟨o0, by omega⟩
  have hl := perm_len hp
  refine ⟨(names.set k.toNat (nat_ names (v % (k + 1)))).set (v % (k + 1)).toNat (nat_ names k), .fz (.int (v % (k + 1))), ?_, swap_perm hp rk ro⟩
  have ec : evE (.call "_law_cell" f__law_cell (.cons (.var 0) (.cons (.bin .add (.cint 40) (.var 8)) .nil))) [.fz (lstD ds), c1, c2, c3, c4, c5, c6, .ol (names.map .int), .fz (.int k), c9, c10, c11] = some (.int v) :=
    call_is (by simp only [evA_cons, evA_nil, evE_bin, evE_cint, evE_var, cellD_zero, cellD_succ, bind2_some, bopD_int, bopI_add, Option.map_some]) ev
  have a1 := at_names (names := names) (p := k) (by rw [hl]; exact rk)
  have a2 := at_names (names := names) (p := v % (k + 1)) (by rw [hl]; exact ro)
  have s1 := setL_int (xs := names) (k := k) (v := nat_ names (v % (k + 1))) (by rw [hl]; exact rk)
  have s2 := setL_int (xs := names.set k.toNat (nat_ names (v % (k + 1)))) (k := v % (k + 1)) (v := nat_ names k) (by rw [List.length_set, hl]; exact ro)
  unfold L__law_wide_1
  rw [evSs_cons, evS_asg, evE_bin, ec]
  simp only [evE_bin, evE_cint, evE_var, cellD_zero, cellD_succ, bind2_some, bopD_int, bopI_add, md, Option.map_some, nx_some, seqO_next, List.set_cons_succ, List.set_cons_zero]
  rw [evSs_cons, evS_swap]
  simp only [viewE_cons, viewE_nil, view_fz, view_ol, evE_ix, evE_var, cellD_zero, cellD_succ, cellL_zero, cellL_succ, bind2_some, bind3_some, Option.bind_some, ixD_list, a1, a2, flatD_int, s1, s2, Option.map_some, nx_some, seqO_next, List.set_cons_succ, List.set_cons_zero, evSs_nil]
end K90

set_option Elab.async false
set_option linter.all false
set_option maxRecDepth 100000
set_option autoImplicit false
set_option maxHeartbeats 1600000
/-! K90m: the law is kept. -/
namespace K90
open PySem L2 Fv
theorem others_ne {n : Nat} (a b : Int) (hn : 3 ≤ n) : others n a b ≠ [] := by
  intro z
  have no : ∀ x : Int, InR n x → x = a ∨ x = b := fun x hx => by
    by_cases h : x = a ∨ x = b
    · exact h
    · have : x ∈ others n a b := others_mem.mpr ⟨hx, fun e => h (.inl e), fun e => h (.inr e)⟩
      rw [z] at this
      cases this
  have h0 := no 0 ⟨by omega, by omega⟩
  have h1 := no 1 ⟨by omega, by omega⟩
  have h2 := no 2 ⟨by omega, by omega⟩
  omega
theorem told_ok {n : Nat} {ts : List (Int × Int)} {a b : Int} (hn3 : 3 ≤ n) (hn : n < 60) (hts : ts.length < 900) (h : Ties n ts) (ha : InR n a) (hb : InR n b) : f__law_told [.int n, .list (ts.map pairD), .int a, .int b] = some (.bool true) := told_due hn hts h ha hb (others_ne a b hn3)
theorem e_wide {ds : List Int} (h : Draws ds) (hl : ds.length = 60) : f__law_wide [lstD ds] = some (.bool true) := by
  obtain ⟨v50, e50, _, _⟩ := h.get (i := 50) (by omega) (by omega)
  obtain ⟨v51, e51, _, _⟩ := h.get (i := 51) (by omega) (by omega)
  obtain ⟨v52, e52, _, _⟩ := h.get (i := 52) (by omega) (by omega)
  obtain ⟨n, en, n1, n2⟩ : ∃ n : Nat, 8 + v50 % 5 = (n : Int) ∧ 8 ≤ n ∧ n ≤ 12 := ⟨(8 + v50 % 5).toNat, by omega, by omega, by omega⟩
  obtain ⟨m, em, m1, m2⟩ : ∃ m : Nat, 7 + v52 % 6 = (m : Int) ∧ 7 ≤ m ∧ m ≤ 12 := ⟨(7 + v52 % 6).toNat, by omega, by omega, by omega⟩
  have hh : 2 < 4 + v51 % 3 ∧ 4 + v51 % 3 < n := by omega
  obtain ⟨ρ1, e1, acc, c4, c5, c6, rfl, hal, hat⟩ := for_inv1 (as := asT (.nm 4)) (body := evSs L__law_wide_0) (fun i ρ => ∃ (acc : List (Int × Int)) (c4 c5 c6 : Cell), ρ = [.fz (lstD ds), .fz (.int n), .fz (.int (4 + v51 % 3)), .ol (acc.map pairD), c4, c5, c6, .un, .un, .un, .un, .un] ∧ acc.length = i ∧ Ties n acc)
    ((ident m).map .int) [.fz (lstD ds), .fz (.int n), .fz (.int (4 + v51 % 3)), .ol [], .un, .un, .un, .un, .un, .un, .un, .un] ⟨[], .un, .un, .un, rfl, rfl, fun t ht => (List.not_mem_nil ht).elim⟩ (by
      rintro i d ρ hd ⟨acc, c4, c5, c6, rfl, hal, hat⟩
      obtain ⟨hi, rfl⟩ := ident_get hd
      obtain ⟨t, d5, d6, et, t1, t2⟩ := wide_turn h (n := n) (by omega) (by omega) hh.1 hh.2 (c5 := c5) (c6 := c6) (c7 := .un) (c8 := .un) (c9 := .un) (c10 := .un) (c11 := .un) (acc := acc) (i := i) (by omega) (by omega)
      refine ⟨_, et, acc ++ [t], _, d5, d6, rfl, by rw [List.length_append, hal]; rfl, fun u hu => ?_⟩
      rcases List.mem_append.mp hu with z | z
      · exact hat u z
      · rw [List.mem_singleton.mp z]; exact ⟨t1, t2⟩)
  rw [List.length_map, ident_len] at hal
  have es1 : evS S__law_wide_0 [.fz (lstD ds), .fz (.int n), .fz (.int (4 + v51 % 3)), .ol [], .un, .un, .un, .un, .un, .un, .un, .un] = some (.next [.fz (lstD ds), .fz (.int n), .fz (.int (4 + v51 % 3)), .ol (acc.map pairD), c4, c5, c6, .un, .un, .un, .un, .un]) := by
    unfold S__law_wide_0
    have md : bopI .mod v52 6 = some (v52 % 6) := mod_ok (by decide)
    rw [evS_for_, r1_it (n := m) (by simp only [viewE_cons, view_fz, evE_bin, evE_ix, evE_cint, evE_var, cellD_zero, bind2_some, ixD_list, e52, bopD_int, md, bopI_add, Option.map_some, em]) (by omega), Option.bind_some]
    exact e1
  obtain ⟨ρ2, e2, names, c8, c9, rfl, hp⟩ := for_inv1 (as := asT (.nm 8)) (body := evSs L__law_wide_1) (fun i ρ => ∃ (names : List Int) (c8 c9 : Cell), ρ = [.fz (lstD ds), .fz (.int n), .fz (.int (4 + v51 % 3)), .ol (acc.map pairD), c4, c5, c6, .ol (names.map .int), c8, c9, .un, .un] ∧ names.Perm (ident n))
    ((rg 1 n).map .int) [.fz (lstD ds), .fz (.int n), .fz (.int (4 + v51 % 3)), .ol (acc.map pairD), c4, c5, c6, .ol ((ident n).map .int), .un, .un, .un, .un] ⟨ident n, .un, .un, rfl, List.Perm.refl _⟩ (by
      rintro i d ρ hd ⟨names, c8, c9, rfl, hp⟩
      rw [List.getElem?_map] at hd
      obtain ⟨k, hk, rfl⟩ := map_some' hd
      have := rg_mem (List.mem_of_getElem? hk)
      obtain ⟨names', d9, et, hp'⟩ := wide_swap h (n := n) (by omega) hp (c1 := .fz (.int n)) (c2 := .fz (.int (4 + v51 % 3))) (c3 := .ol (acc.map pairD)) (c4 := c4) (c5 := c5) (c6 := c6) (c9 := c9) (c10 := .un) (c11 := .un) (k := k) (by omega) (by omega)
      exact ⟨_, et, names', _, d9, rfl, hp'⟩)
  have es2 : evS S__law_wide_1 [.fz (lstD ds), .fz (.int n), .fz (.int (4 + v51 % 3)), .ol (acc.map pairD), c4, c5, c6, .ol ((ident n).map .int), .un, .un, .un, .un] = some (.next [.fz (lstD ds), .fz (.int n), .fz (.int (4 + v51 % 3)), .ol (acc.map pairD), c4, c5, c6, .ol (names.map .int), c8, c9, .un, .un]) := by
    unfold S__law_wide_1
    rw [evS_for_, (lrng2 (lo := 1) (hi := n) rfl rfl (by omega) (by omega) (by omega) (by omega)).2, Option.bind_some]
    exact e2
  have hnl := perm_len hp
  have e0 : evF (.lrng (.r1 (.var 1))) [.fz (lstD ds), .fz (.int n), .fz (.int (4 + v51 % 3)), .ol (acc.map pairD), c4, c5, c6, .un, .un, .un, .un, .un] = some ((ident n).map .int) := (lrng_ok (n := n) (by simp only [evE_var, viewE_cons, view_fz, cellD_zero, cellD_succ]) (by omega)).2
  have ecm : evE (.comp [11, 9] (.tup [11, 9]) (.seq (.var 3)) .yes (.tup (.cons (.oix 7 (.var 11)) (.cons (.oix 7 (.var 9)) .nil)))) [.fz (lstD ds), .fz (.int n), .fz (.int (4 + v51 % 3)), .fz (.list (acc.map pairD)), c4, c5, c6, .ol (names.map .int), c8, c9, .un, .un] = some (.list ((moveL names acc).map pairD)) := by
    rw [(evF_all (g := pairD) (h := fun t => pairD (nat_ names t.1, nat_ names t.2)) acc (by simp only [evI_seq, evE_var, cellD_zero, cellD_succ, Option.bind_some, itemsD_list]) (small_le (by omega)) fun t ht => ?_).2]
    · unfold moveL
      rw [List.map_map]
      rfl
    · obtain ⟨p, q⟩ := t
      obtain ⟨r1, r2⟩ := hat _ ht
      have a1 := at_names (names := names) (p := p) (by rw [hnl]; exact r1)
      have a2 := at_names (names := names) (p := q) (by rw [hnl]; exact r2)
      unfold cF
      simp only [asT_tup, setAll_cons, setAll_nil, wipeE_cons, wipeE_nil, List.set_cons_succ, List.set_cons_zero, Option.bind_some, evC_yes, cond_true, evE_tup, evA_cons, evA_nil, evE_oix, evE_var, cellD_zero, cellD_succ, cellL_zero, cellL_succ, bind2_some, oixD_int, a1, a2, tup_pair, Option.map_some]
  have i0 : InR n 0 := ⟨by omega, by omega⟩
  have i1 : InR n 1 := ⟨by omega, by omega⟩
  have n0 := at_names (names := names) (p := 0) (by rw [hnl]; exact i0)
  have n1' := at_names (names := names) (p := 1) (by rw [hnl]; exact i1)
  have k1 := told_ok (n := n) (ts := acc) (a := 0) (b := 1) (by omega) (by omega) (by omega) hat i0 i1
  have k2 := told_ok (n := n) (ts := moveL names acc) (a := nat_ names 0) (b := nat_ names 1) (by omega) (by omega) (by unfold moveL; rw [List.length_map]; omega) (move_ties hp hat) (perm_at hp i0) (perm_at hp i1)
  have st : start0 12 [lstD ds] = [.fz (lstD ds), .un, .un, .un, .un, .un, .un, .un, .un, .un, .un, .un] := rfl
  have m50 : bopI .mod v50 5 = some (v50 % 5) := mod_ok (by decide)
  have m51 : bopI .mod v51 3 = some (v51 % 3) := mod_ok (by decide)
  unfold f__law_wide
  rw [runD_1, st]
  unfold b__law_wide
  rw [evSs_cons, evS_asg]
  simp only [evE_bin, evE_ix, evE_cint, evE_var, cellD_zero, bind2_some, ixD_list, e50, bopD_int, m50, bopI_add, Option.map_some, en, nx_some, seqO_next, List.set_cons_succ, List.set_cons_zero]
  rw [evSs_cons, evS_asg]
  simp only [evE_bin, evE_ix, evE_cint, evE_var, cellD_zero, bind2_some, ixD_list, e51, bopD_int, m51, bopI_add, Option.map_some, nx_some, seqO_next, List.set_cons_succ, List.set_cons_zero]
  rw [evSs_cons, evS_asgF, evF_lst, evA_nil, Option.bind_some, f_nil, Option.map_some, nx_some, seqO_next]
  simp only [List.set_cons_succ, List.set_cons_zero]
  rw [evSs_cons, es1, seqO_next, evSs_cons, evS_asgF, e0, Option.map_some, nx_some, seqO_next]
  simp only [List.set_cons_succ, List.set_cons_zero]
  rw [evSs_cons, es2, seqO_next, evSs_cons]
  rw [show evS (.frz 3) [.fz (lstD ds), .fz (.int n), .fz (.int (4 + v51 % 3)), .ol (acc.map pairD), c4, c5, c6, .ol (names.map .int), c8, c9, .un, .un] = some (.next [.fz (lstD ds), .fz (.int n), .fz (.int (4 + v51 % 3)), .fz (.list (acc.map pairD)), c4, c5, c6, .ol (names.map .int), c8, c9, .un, .un]) from rfl, seqO_next]
  rw [evSs_cons, evS_asg, ecm, Option.map_some, nx_some, seqO_next]
  simp only [List.set_cons_succ, List.set_cons_zero]
  rw [evSs_cons, evS_ret, evE_and]
  rw [call_is (x := "_law_told") (f := f__law_told) (as := .cons (.var 1) (.cons (.var 3) (.cons (.cint 0) (.cons (.cint 1) .nil)))) (by simp only [evA_cons, evA_nil, evE_cint, evE_var, cellD_zero, cellD_succ, bind2_some]) k1]
  rw [call_is (x := "_law_told") (f := f__law_told) (as := .cons (.var 1) (.cons (.var 10) (.cons (.oix 7 (.cint 0)) (.cons (.oix 7 (.cint 1)) .nil)))) (by simp only [evA_cons, evA_nil, evE_oix, evE_cint, evE_var, cellD_zero, cellD_succ, cellL_zero, cellL_succ, bind2_some, oixD_int, n0, n1']) k2]
  rfl
theorem lenOk5 (a b c d e : D) : lenOk [a, b, c, d, e] = some [a, b, c, d, e] := len_ok (by show 5 < 1000000; omega)
def C1 : List (Int × Int) := [(0, 2), (2, 1), (0, 3), (3, 1), (0, 1)]
def C2 : List (Int × Int) := [(2, 2), (0, 3), (0, 0)]
theorem c1_ties : Ties 4 C1 := fun t ht => by
  unfold C1 at ht
  simp only [List.mem_cons, List.not_mem_nil, or_false] at ht
  unfold InR
  rcases ht with h | h | h | h | h <;> subst h <;> decide
theorem c2_ties : Ties 4 C2 := fun t ht => by
  unfold C2 at ht
  simp only [List.mem_cons, List.not_mem_nil, or_false] at ht
  unfold InR
  rcases ht with h | h | h <;> subst h <;> decide
theorem c1_tw : twist 4 C1 0 1 = [(1, 2), (2, 0), (0, 3), (3, 1), (0, 1)] := by decide +kernel
theorem c2_tw : twist 4 C2 0 1 = C2 := by decide +kernel
theorem not_told {ρ : EnvD} {as : As} {vs : List D} (ha : evA as ρ = some vs) (hf : f__law_told vs = some (.bool true)) : evT (.not (.call "_law_told" f__law_told as)) ρ = some false := by
  rw [evT_not, callT_is ha hf]
  rfl
theorem bop_i {op : Bop} {i j k : Int} (h : bopI op i j = some k) : bopD op (.int i) (.int j) = some (.int k) := by rw [bopD_int, h]; rfl
theorem second_ok {ρ : EnvD} {f n v4 : Int} (h9 : evE (.var 9) ρ = some (.int f)) (h4 : evE (.ix (.var 1) (.cint 4)) ρ = some (.int v4)) (h7 : evE (.var 7) ρ = some (.int n)) (pn : 0 < n) (pn1 : 0 < n - 1) :
    evE (.bin .mod (.bin .add (.bin .add (.var 9) (.cint 1)) (.bin .mod (.ix (.var 1) (.cint 4)) (.bin .sub (.var 7) (.cint 1)))) (.var 7)) ρ = some (.int ((f + 1 + v4 % (n - 1)) % n)) := by
  rw [evE_bin, evE_bin, evE_bin, evE_bin, evE_bin, h9, h4, h7, evE_cint]
  rw [bind2_some, bind2_some, bop_i (bopI_sub n 1), bind2_some, bop_i (mod_ok pn1), bop_i (bopI_add f 1), bind2_some, bop_i (bopI_add (f + 1) (v4 % (n - 1))), bind2_some, bop_i (mod_ok pn)]
theorem law_true (ns : List Int) (hns : ns.length ≤ 63) : f_law [scriptD ns] = some (.bool true) := by
  obtain ⟨ds, ed, dl, dn⟩ := draws_ok hns (many := 60) (by omega)
  have hd : Draws ds := ⟨fun z => (by rw [z] at dl; exact absurd dl (by simp)), by omega, dn⟩
  obtain ⟨v0, g0, _, _⟩ := hd.get (i := 0) (by omega) (by omega)
  obtain ⟨v1, g1, _, _⟩ := hd.get (i := 1) (by omega) (by omega)
  obtain ⟨v2, g2, _, _⟩ := hd.get (i := 2) (by omega) (by omega)
  obtain ⟨v3, g3, _, _⟩ := hd.get (i := 3) (by omega) (by omega)
  obtain ⟨v4, g4, _, _⟩ := hd.get (i := 4) (by omega) (by omega)
  obtain ⟨v53, g53, _, _⟩ := hd.get (i := 53) (by omega) (by omega)
  obtain ⟨m0, em0, hm0⟩ : ∃ m : Nat, v0 % 10 = (m : Int) ∧ m < 10 := ⟨(v0 % 10).toNat, by omega, by omega⟩
  obtain ⟨n, en, n1, n2⟩ : ∃ n : Nat, 4 + v1 % 2 = (n : Int) ∧ 4 ≤ n ∧ n ≤ 5 := ⟨(4 + v1 % 2).toNat, by omega, by omega, by omega⟩
  obtain ⟨m2, em2, hm2⟩ : ∃ m : Nat, v2 % 7 = (m : Int) ∧ m < 7 := ⟨(v2 % 7).toNat, by omega, by omega⟩
  obtain ⟨ts, ets, tl, tt⟩ := e_two hd (m := m0) (by omega)
  obtain ⟨names, enm, hp⟩ := e_renamed' hd (n := 6) (by omega)
  obtain ⟨fr, efr, fl, ft⟩ := e_ties hd (n := n) (m := m2) (by omega) (by omega) (by omega)
  have c60 : ((60 : Nat) : Int) = 60 := rfl
  have c6 : ((6 : Nat) : Int) = 6 := rfl
  have c4 : ((4 : Nat) : Int) = 4 := rfl
  rw [c60] at ed
  rw [← draws_eq] at ed
  rw [c6] at enm
  have hnl := perm_len hp
  have i0 : InR 6 0 := ⟨by omega, by omega⟩
  have i1 : InR 6 1 := ⟨by omega, by omega⟩
  have q0 := at_names (names := names) (p := 0) (by rw [hnl]; exact i0)
  have q1 := at_names (names := names) (p := 1) (by rw [hnl]; exact i1)
  have pn : (0 : Int) < n := by omega
  have rf : InR n (v3 % n) := ⟨Int.emod_nonneg _ (by omega), Int.emod_lt_of_pos _ pn⟩
  have pn1 : (0 : Int) < (n : Int) - 1 := by omega
  have rs : InR n ((v3 % n + 1 + v4 % ((n : Int) - 1)) % n) := ⟨Int.emod_nonneg _ (by omega), Int.emod_lt_of_pos _ pn⟩
  have t1 := told_ok (n := 6) (ts := ts) (a := 0) (b := 1) (by omega) (by omega) (by omega) tt i0 i1
  have t2 := told_ok (n := 6) (ts := ts) (a := 1) (b := 0) (by omega) (by omega) (by omega) tt i1 i0
  have t3 := told_ok (n := 6) (ts := moveL names ts) (a := nat_ names 0) (b := nat_ names 1) (by omega) (by omega) (by unfold moveL; rw [List.length_map]; omega) (move_ties hp tt) (perm_at hp i0) (perm_at hp i1)
  have t4 := told_ok (n := n) (ts := fr) (a := v3 % n) (b := (v3 % n + 1 + v4 % ((n : Int) - 1)) % n) (by omega) (by omega) (by omega) ft rf rs
  have t5 := told_ok (n := 4) (ts := []) (a := 2) (b := 3) (by omega) (by omega) (by simp) (fun t ht => (List.not_mem_nil ht).elim) ⟨by omega, by omega⟩ ⟨by omega, by omega⟩
  rw [c6] at t1 t2 t3
  rw [c4, List.map_nil] at t5
  have pw := e_pieces (n := n) (ts := fr) (a := v3 % n) (b := (v3 % n + 1 + v4 % ((n : Int) - 1)) % n) (by omega) (by omega) ft
  have w := e_wide hd dl
  have x1 := e_twisted (n := 4) (ts := C1) (a := 0) (b := 1) (by omega) (by show 5 < 1000; omega) c1_ties (others_ne 0 1 (by omega))
  have x2 := e_twisted (n := 4) (ts := C2) (a := 0) (b := 1) (by omega) (by show 3 < 1000; omega) c2_ties (others_ne 0 1 (by omega))
  rw [c1_tw] at x1
  rw [c2_tw] at x2
  rw [c4] at x1 x2
  have k0 : bopI .mod v0 10 = some (v0 % 10) := mod_ok (by decide)
  have k1 : bopI .mod v1 2 = some (v1 % 2) := mod_ok (by decide)
  have k2 : bopI .mod v2 7 = some (v2 % 7) := mod_ok (by decide)
  have k3 : bopI .mod v3 n = some (v3 % n) := mod_ok pn
  have k4 : bopI .mod v4 ((n : Int) - 1) = some (v4 % ((n : Int) - 1)) := mod_ok pn1
  have k5 : bopI .mod (v3 % n + 1 + v4 % ((n : Int) - 1)) n = some ((v3 % n + 1 + v4 % ((n : Int) - 1)) % n) := mod_ok pn
  have k53 : bopI .mod v53 3 = some (v53 % 3) := mod_ok (by decide)
  have st : start0 11 [scriptD ns] = [.fz (scriptD ns), .un, .un, .un, .un, .un, .un, .un, .un, .un, .un] := rfl
  have mv : evE (.comp [5, 6] (.tup [5, 6]) (.seq (.var 2)) .yes (.tup (.cons (.ix (.var 3) (.var 5)) (.cons (.ix (.var 3) (.var 6)) .nil)))) [.fz (scriptD ns), .fz (lstD ds), .fz (.list (ts.map pairD)), .fz (lstD names), .un, .un, .un, .un, .un, .un, .un] = some (.list ((moveL names ts).map pairD)) := by
    rw [(evF_all (g := pairD) (h := fun t => pairD (nat_ names t.1, nat_ names t.2)) ts (by simp only [evI_seq, evE_var, cellD_zero, cellD_succ, Option.bind_some, itemsD_list]) (small_le (by omega)) fun t ht => ?_).2]
    · unfold moveL
      rw [List.map_map]
      rfl
    · obtain ⟨p, q⟩ := t
      obtain ⟨r1, r2⟩ := tt _ ht
      have a1 := at_names (names := names) (p := p) (by rw [hnl]; exact r1)
      have a2 := at_names (names := names) (p := q) (by rw [hnl]; exact r2)
      unfold cF
      simp only [asT_tup, setAll_cons, setAll_nil, wipeE_cons, wipeE_nil, List.set_cons_succ, List.set_cons_zero, Option.bind_some, evC_yes, cond_true, evE_tup, evA_cons, evA_nil, evE_ix, evE_var, cellD_zero, cellD_succ, bind2_some, ixD_list, a1, a2, tup_pair, Option.map_some]
  unfold f_law
  rw [runD_1, st]
  unfold b_law
  rw [evSs_cons, evS_asg, (callF_is (x := "_law_draws") (f := f__law_draws) (as := .cons (.var 0) (.cons (.cint 60) .nil)) (ρ := [.fz (scriptD ns), .un, .un, .un, .un, .un, .un, .un, .un, .un, .un]) (by simp only [evA_cons, evA_nil, evE_cint, evE_var, cellD_zero, bind2_some]) ed).1, Option.map_some, nx_some, seqO_next]
  simp only [List.set_cons_succ, List.set_cons_zero]
  rw [evSs_cons, evS_asg, (callF_is (by simp only [evA_cons, evA_nil, evE_bin, evE_ix, evE_cint, evE_var, cellD_zero, cellD_succ, bind2_some, ixD_list, g0, bopD_int, k0, Option.map_some, em0]) ets).1, Option.map_some, nx_some, seqO_next]
  simp only [List.set_cons_succ, List.set_cons_zero]
  rw [evSs_cons, evS_asg, (callF_is (by simp only [evA_cons, evA_nil, evE_cint, evE_var, cellD_zero, cellD_succ, bind2_some]) enm).1, Option.map_some, nx_some, seqO_next]
  simp only [List.set_cons_succ, List.set_cons_zero]
  rw [evSs_cons, evS_asg, mv, Option.map_some, nx_some, seqO_next]
  simp only [List.set_cons_succ, List.set_cons_zero]
  rw [evSs_cons, evS_ite]
  simp only [viewE_cons, viewE_nil, view_fz, view_un]
  rw [evT_or, not_told (by simp only [evA_cons, evA_nil, evE_cint, evE_var, cellD_zero, cellD_succ, bind2_some]) t1, Option.bind_some, cond_false]
  rw [evT_or, not_told (by simp only [evA_cons, evA_nil, evE_cint, evE_var, cellD_zero, cellD_succ, bind2_some]) t2, Option.bind_some, cond_false]
  rw [not_told (by simp only [evA_cons, evA_nil, evE_ix, evE_cint, evE_var, cellD_zero, cellD_succ, bind2_some, ixD_list, q0, q1]) t3, Option.bind_some, cond_false, evSs_nil, seqO_next]
  rw [evSs_cons, evS_asg]
  simp only [evE_bin, evE_ix, evE_cint, evE_var, cellD_zero, cellD_succ, bind2_some, ixD_list, g1, bopD_int, k1, bopI_add, Option.map_some, en, nx_some, seqO_next, List.set_cons_succ, List.set_cons_zero]
  rw [evSs_cons, evS_asg, (callF_is (by simp only [evA_cons, evA_nil, evE_bin, evE_ix, evE_cint, evE_cbl, evE_var, cellD_zero, cellD_succ, bind2_some, ixD_list, g2, bopD_int, k2, Option.map_some, em2]) efr).1, Option.map_some, nx_some, seqO_next]
  simp only [List.set_cons_succ, List.set_cons_zero]
  rw [evSs_cons, evS_asg]
  simp only [evE_bin, evE_ix, evE_cint, evE_var, cellD_zero, cellD_succ, bind2_some, ixD_list, g3, bopD_int, k3, Option.map_some, nx_some, seqO_next, List.set_cons_succ, List.set_cons_zero]
  rw [evSs_cons, evS_asg, second_ok (f := v3 % n) (n := n) (v4 := v4) rfl (by simp only [evE_ix, evE_cint, evE_var, cellD_zero, cellD_succ, bind2_some, ixD_list, g4]) rfl pn pn1, Option.map_some, nx_some, seqO_next]
  simp only [List.set_cons_succ, List.set_cons_zero]
  rw [evSs_cons, evS_ite]
  simp only [viewE_cons, viewE_nil, view_fz, view_un]
  have fa : ∀ c : Bool, (cond c (some false) (some false) : Option Bool) = some false := fun c => by cases c <;> rfl
  rw [evT_and, not_told (by simp only [evA_cons, evA_nil, evE_var, cellD_zero, cellD_succ, bind2_some]) t4]
  rw [evT_cmp, evE_bfn, evA_cons, evA_nil, (callF_is (by simp only [evA_cons, evA_nil, evE_var, cellD_zero, cellD_succ, bind2_some]) pw).1, bind2_some, Option.bind_some, bfn_len, evE_cint, bind2_some, cop_int', Option.bind_some, fa, Option.bind_some, cond_false, evSs_nil, seqO_next]
  rw [evSs_cons, evS_ite]
  simp only [viewE_cons, viewE_nil, view_fz, view_un]
  rw [evT_and, evT_not, callT_is (by simp only [evA_cons, evA_nil, evE_var, cellD_zero, cellD_succ, bind2_some]) w]
  simp only [evT_cmp, evE_bin, evE_ix, evE_cint, evE_var, cellD_zero, cellD_succ, bind2_some, ixD_list, g53, bopD_int, k53, Option.map_some, cop_int', Option.bind_some, Bool.not_true, fa, cond_false, evSs_nil, seqO_next]
  have s1 : evA (.cons (.cint 4) (.cons (.lst (.cons (.tup (.cons (.cint 0) (.cons (.cint 2) .nil))) (.cons (.tup (.cons (.cint 2) (.cons (.cint 1) .nil))) (.cons (.tup (.cons (.cint 0) (.cons (.cint 3) .nil))) (.cons (.tup (.cons (.cint 3) (.cons (.cint 1) .nil))) (.cons (.tup (.cons (.cint 0) (.cons (.cint 1) .nil))) .nil)))))) (.cons (.cint 0) (.cons (.cint 1) .nil)))) = fun _ => some [.int 4, .list (C1.map pairD), .int 0, .int 1] := funext fun ρ => by
    simp only [evA_cons, evA_nil, evE_lst, evE_tup, evE_cint, bind2_some, Option.bind_some, tup_pair, lenOk5, Option.map_some]
    rfl
  have s2 : evA (.cons (.cint 4) (.cons (.lst (.cons (.tup (.cons (.cint 2) (.cons (.cint 2) .nil))) (.cons (.tup (.cons (.cint 0) (.cons (.cint 3) .nil))) (.cons (.tup (.cons (.cint 0) (.cons (.cint 0) .nil))) .nil)))) (.cons (.cint 0) (.cons (.cint 1) .nil)))) = fun _ => some [.int 4, .list (C2.map pairD), .int 0, .int 1] := funext fun ρ => by
    simp only [evA_cons, evA_nil, evE_lst, evE_tup, evE_cint, bind2_some, Option.bind_some, tup_pair, lenOk3, Option.map_some]
    rfl
  have d1 : ∀ ρ : EnvD, evE (.lst (.cons (.tup (.cons (.cint 1) (.cons (.cint 2) .nil))) (.cons (.tup (.cons (.cint 2) (.cons (.cint 0) .nil))) (.cons (.tup (.cons (.cint 0) (.cons (.cint 3) .nil))) (.cons (.tup (.cons (.cint 3) (.cons (.cint 1) .nil))) (.cons (.tup (.cons (.cint 0) (.cons (.cint 1) .nil))) .nil)))))) ρ = some (.list (([(1, 2), (2, 0), (0, 3), (3, 1), (0, 1)] : List (Int × Int)).map pairD)) := fun ρ => by
    simp only [evA_cons, evA_nil, evE_lst, evE_tup, evE_cint, bind2_some, Option.bind_some, tup_pair, lenOk5, Option.map_some]
    rfl
  have d2 : ∀ ρ : EnvD, evE (.lst (.cons (.tup (.cons (.cint 2) (.cons (.cint 2) .nil))) (.cons (.tup (.cons (.cint 0) (.cons (.cint 3) .nil))) (.cons (.tup (.cons (.cint 0) (.cons (.cint 0) .nil))) .nil)))) ρ = some (.list (C2.map pairD)) := fun ρ => by
    simp only [evA_cons, evA_nil, evE_lst, evE_tup, evE_cint, bind2_some, Option.bind_some, tup_pair, lenOk3, Option.map_some]
    rfl
  rw [evSs_cons, evS_ite, evT_cmp, (callF_is (congrFun s1 _) x1).1, d1, bind2_some, cop_ne_pairs, decide_eq_true rfl, Bool.not_true, Option.bind_some, cond_false, evSs_nil, seqO_next]
  rw [evSs_cons, evS_ret, evE_and, evE_cmp, (callF_is (congrFun s2 _) x2).1, d2, bind2_some, cop_eq_pairs, decide_eq_true rfl, Option.map_some, Option.bind_some]
  rw [call_is (x := "_law_told") (f := f__law_told) (as := .cons (.cint 4) (.cons (.lst .nil) (.cons (.cint 2) (.cons (.cint 3) .nil)))) (by simp only [evA_cons, evA_nil, evE_lst, evE_cint, bind2_some, Option.bind_some, f_nil, Option.map_some]) t5]
  rfl
end K90

set_option Elab.async false
set_option linter.all false
set_option maxRecDepth 100000
set_option autoImplicit false
set_option maxHeartbeats 4000000
open PySem PySem.W PyProof.Rows
set_option maxHeartbeats 0 in
theorem PySem.Challenge.cw_freelots_k90_twisted_nets_holds : PySem.Challenge.rw_freelots_k90_twisted_nets.Holds := by
  w_on; o_law; k_head; (case hw => w_witness2)
  k_fill
  refine Fv.walk_G (l := PySem.Challenge.rw_freelots_k90_twisted_nets) (n := 63) (k := 7) (x := "script") (sp := Fv.spP K90.f_law) rfl (by decide) rfl ⟨rfl, by decide, by decide⟩ (fun w h Y => PySem.W.kIn_of Y) ?wNl ?wFn (fun H a ns hl hS => Fv.law_sp (K90.law_true ns hl) hS)
  case wNl =>
    intro w
    rfl
  case wFn =>
    intro w mg fa h KX G hmg
    refine' K90.all_mk KX G hmg ?fva0 ?fvl0 ?fvc0 ?fvg0 ?fva1 ?fvl1 ?fvc1 ?fvg1 ?fva2 ?fvl2 ?fvc2 ?fvg2 ?fva3 ?fvl3 ?fvc3 ?fvg3 ?fva4 ?fvl4 ?fvc4 ?fvg4 ?fva5 ?fvl5 ?fvc5 ?fvg5 ?fva6 ?fvl6 ?fvc6 ?fvg6 ?fva7 ?fvl7 ?fvc7 ?fvg7 ?fva8 ?fvl8 ?fvc8 ?fvg8 ?fva9 ?fvl9 ?fvc9 ?fvg9 ?fva10 ?fvl10 ?fvc10 ?fvg10 ?fva11 ?fvl11 ?fvc11 ?fvg11 ?fva12 ?fvl12 ?fvc12 ?fvg12 ?fva13 ?fvl13 ?fvc13 ?fvg13 ?fva14 ?fvl14 ?fvc14 ?fvg14 ?fvz0 ?fvz1 ?fvz2 ?fvz3 ?fvz4 ?fvz5 ?fvz6 ?fvz7 ?fvz8 ?fvz9 ?fvz10 ?fvz11 ?fvz12 ?fvz13 ?fvz14
    (case fva0 => k_is); (case fvl0 => k_is); (case fvc0 => k_is); (case fvg0 => k_is); (case fva1 => k_is); (case fvl1 => k_is); (case fvc1 => k_is); (case fvg1 => k_is); (case fva2 => k_is); (case fvl2 => k_is); (case fvc2 => k_is); (case fvg2 => k_is); (case fva3 => k_is); (case fvl3 => k_is); (case fvc3 => k_is); (case fvg3 => k_is); (case fva4 => k_is); (case fvl4 => k_is); (case fvc4 => k_is); (case fvg4 => k_is); (case fva5 => k_is); (case fvl5 => k_is); (case fvc5 => k_is); (case fvg5 => k_is); (case fva6 => k_is); (case fvl6 => k_is); (case fvc6 => k_is); (case fvg6 => k_is); (case fva7 => k_is); (case fvl7 => k_is); (case fvc7 => k_is); (case fvg7 => k_is); (case fva8 => k_is); (case fvl8 => k_is); (case fvc8 => k_is); (case fvg8 => k_is); (case fva9 => k_is); (case fvl9 => k_is); (case fvc9 => k_is); (case fvg9 => k_is); (case fva10 => k_is); (case fvl10 => k_is); (case fvc10 => k_is); (case fvg10 => k_is); (case fva11 => k_is); (case fvl11 => k_is); (case fvc11 => k_is); (case fvg11 => k_is); (case fva12 => k_is); (case fvl12 => k_is); (case fvc12 => k_is); (case fvg12 => k_is); (case fva13 => k_is); (case fvl13 => k_is); (case fvc13 => k_is); (case fvg13 => k_is); (case fva14 => k_is); (case fvl14 => k_is); (case fvc14 => k_is); (case fvg14 => k_is); (case fvz0 => k_is); (case fvz1 => k_is); (case fvz2 => k_is); (case fvz3 => k_is); (case fvz4 => k_is); (case fvz5 => k_is); (case fvz6 => k_is); (case fvz7 => k_is); (case fvz8 => k_is); (case fvz9 => k_is); (case fvz10 => k_is); (case fvz11 => k_is); (case fvz12 => k_is); (case fvz13 => k_is); (case fvz14 => k_is)
