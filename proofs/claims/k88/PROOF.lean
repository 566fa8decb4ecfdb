import PyProof.Rows.All
import Wide.All
import OpenK.AllK
import Wide.FinOn
import HandS.ForMost
import HandS.Zip
import HandS.TupAny
import HandS.TupMul
import HandS.IsInst
import HandS.Style
import HandS.Flow
import HandS.Conv
import HandS.Defaults
import KE.KDictKeyed
import KE.KeyNested
import KE.DataMinMax
import KE.DatumOrd
import KE.GoesMore
import KE.GoesEnum
import KE.KDictDisplayH
import HandS.Head0
import HandS.Head1
import HandS.Head2
import HandS.HeadEnd
import HandS.HeadHook1
import HandS.HeadHook2
import KE.KStateDown
import PySem.Challenge.RW_nonerunsdry_k88_whole_reaching
set_option Elab.async false
set_option linter.all false
set_option maxRecDepth 100000
set_option maxHeartbeats 0
/-! The data layer: plain data, a store of cells, and how they lie in HandS's abstract heap. -/
namespace DL
open PySem PySem.Spec PyProof.Rows L2

/-- data: lst is a list that nobody changes any more; ref a cell of the store -/
inductive D where
  | non | bl (b : Bool) | int (i : Int) | str (x : Str) | tup (xs : List D) | lst (xs : List D) | scr (xs : List D) | ref (n : Nat)
/-- what changes: a list, a dict by ints and texts, a dict by tuples; lk: while it is walked -/
inductive Cell where
  | dead | lst (xs : List D) | dK (lk : Bool) (kvs : List (Key × D)) | dN (lk : Bool) (kvs : List (D × D))
abbrev Store := List Cell
abbrev Env' := List (Option D)
/-- where the cells stand, and what is hidden (the list that a comprehension makes) -/
structure Wd where
  at_ : Nat → Addr
  hid : List Addr
instance : CoeFun Wd fun _ => Nat → Addr := ⟨Wd.at_⟩

def Owned (B : Wd) (S : Store) (a : Addr) : Prop := a ∈ B.hid ∨ ∃ k c, S[k]? = some c ∧ c ≠ Cell.dead ∧ B k = a

mutual
inductive RV (K : PySem.W.Frag) (B : Wd) (S : Store) (H : Hp) : V → D → Prop
  | non : RV K B S H .non .non
  | bl (b : Bool) : RV K B S H (.bl b) (.bl b)
  | int (i : Int) : RV K B S H (.int i) (.int i)
  | str (x : Str) : RV K B S H (.str x) (.str x)
  | tup {a xs ds} : H a = some (.tup xs) → ¬ Owned B S a → RVs K B S H xs ds → RV K B S H (.ref a) (.tup ds)
  | tupK {a xs ds} : (∀ H', SqT K H' a xs) → RVs K B S H xs ds → RV K B S H (.ref a) (.tup ds)
  | lst {a xs ds} : H a = some (.lst xs) → ¬ Owned B S a → RVs K B S H xs ds → RV K B S H (.ref a) (.lst ds)
  | lstF {a o xs ds} : H a = some (.frz o (.lst xs)) → ¬ Owned B S a → RVs K B S H xs ds → RV K B S H (.ref a) (.scr ds)
  | lstK {a xs ds} : (∀ H', SqL K H' a xs) → RVs K B S H xs ds → RV K B S H (.ref a) (.scr ds)
  | ref {k} : k < S.length → RV K B S H (.ref (B k)) (.ref k)
inductive RVs (K : PySem.W.Frag) (B : Wd) (S : Store) (H : Hp) : List V → List D → Prop
  | nil : RVs K B S H [] []
  | cons {v d vs ds} : RV K B S H v d → RVs K B S H vs ds → RVs K B S H (v :: vs) (d :: ds)
end

/-- a step: what is not owned is kept, what comes to be owned was not there -/
structure St0 (B : Wd) (S : Store) (H : Hp) (B' : Wd) (S' : Store) (H' : Hp) : Prop where
  len : S.length ≤ S'.length
  agr : ∀ k, k < S.length → B' k = B k
  oth : ∀ a o, H a = some o → ¬ Owned B S a → H' a = some o
  own : ∀ a o, H a = some o → Owned B' S' a → Owned B S a
structure Stp (B : Wd) (S : Store) (H : Hp) (B' : Wd) (S' : Store) (H' : Hp) : Prop extends St0 B S H B' S' H' where
  hde : B'.hid = B.hid
  hdk : ∀ a, a ∈ B.hid → H' a = H a

theorem St0.refl (B : Wd) (S : Store) (H : Hp) : St0 B S H B S H := ⟨Nat.le_refl _, fun _ _ => rfl, fun _ _ h _ => h, fun _ _ _ h => h⟩
theorem St0.trans {B B1 B2 : Wd} {S S1 S2 : Store} {H H1 H2 : Hp} (a : St0 B S H B1 S1 H1) (b : St0 B1 S1 H1 B2 S2 H2) : St0 B S H B2 S2 H2 :=
  ⟨Nat.le_trans a.len b.len, fun k h => (b.agr k (Nat.lt_of_lt_of_le h a.len)).trans (a.agr k h),
    fun c o h n => b.oth c o (a.oth c o h n) fun w => n (a.own c o h w),
    fun c o h w => Classical.byContradiction fun n => n (a.own c o h (b.own c o (a.oth c o h n) w))⟩
theorem Stp.refl (B : Wd) (S : Store) (H : Hp) : Stp B S H B S H := ⟨St0.refl B S H, rfl, fun _ _ => rfl⟩
theorem Stp.trans {B B1 B2 : Wd} {S S1 S2 : Store} {H H1 H2 : Hp} (a : Stp B S H B1 S1 H1) (b : Stp B1 S1 H1 B2 S2 H2) : Stp B S H B2 S2 H2 :=
  ⟨a.toSt0.trans b.toSt0, b.hde.trans a.hde, fun c h => (b.hdk c (by rw [a.hde]; exact h)).trans (a.hdk c h)⟩

section
variable {K : PySem.W.Frag} {B B' : Wd} {S S' : Store} {H H' : Hp}
mutual
theorem RV.mono0 (s : St0 B S H B' S' H') : ∀ (d : D) (v : V), RV K B S H v d → RV K B' S' H' v d
  | .non, _, h => by cases h; exact .non
  | .bl b, _, h => by cases h; exact .bl b
  | .int i, _, h => by cases h; exact .int i
  | .str x, _, h => by cases h; exact .str x
  | .tup ds, _, h => by
    cases h with
    | tup e n r => exact .tup (s.oth _ _ e n) (fun w => n (s.own _ _ e w)) (RVs.mono0 s ds _ r)
    | tupK e r => exact .tupK e (RVs.mono0 s ds _ r)
  | .lst ds, _, h => by
    cases h with
    | lst e n r => exact .lst (s.oth _ _ e n) (fun w => n (s.own _ _ e w)) (RVs.mono0 s ds _ r)
  | .scr ds, _, h => by
    cases h with
    | lstF e n r => exact .lstF (s.oth _ _ e n) (fun w => n (s.own _ _ e w)) (RVs.mono0 s ds _ r)
    | lstK e r => exact .lstK e (RVs.mono0 s ds _ r)
  | .ref k, _, h => by
    cases h with
    | ref lt =>
      rw [← s.agr k lt]
      exact .ref (Nat.lt_of_lt_of_le lt s.len)
theorem RVs.mono0 (s : St0 B S H B' S' H') : ∀ (ds : List D) (vs : List V), RVs K B S H vs ds → RVs K B' S' H' vs ds
  | [], _, h => by cases h; exact .nil
  | d :: ds, _, h => by
    cases h with
    | cons h1 h2 => exact .cons (RV.mono0 s d _ h1) (RVs.mono0 s ds _ h2)
end
theorem RV.mono (s : Stp B S H B' S' H') (d : D) (v : V) (h : RV K B S H v d) : RV K B' S' H' v d := RV.mono0 s.toSt0 d v h
theorem RVs.mono (s : Stp B S H B' S' H') (d : List D) (v : List V) (h : RVs K B S H v d) : RVs K B' S' H' v d := RVs.mono0 s.toSt0 d v h
theorem RVs.length : ∀ {ds : List D} {vs : List V}, RVs K B S H vs ds → vs.length = ds.length
  | [], _, h => by cases h; rfl
  | d :: ds, _, h => by
    cases h with
    | cons h1 h2 => simp [RVs.length h2]
theorem RVs.get : ∀ {ds : List D} {vs : List V} {i : Nat} {d : D}, RVs K B S H vs ds → ds[i]? = some d → ∃ v, vs[i]? = some v ∧ RV K B S H v d
  | [], _, _, _, _, e => by simp at e
  | d :: ds, _, 0, _, .cons h1 h2, e => by simp at e; subst e; exact ⟨_, rfl, h1⟩
  | d :: ds, _, i + 1, _, .cons h1 h2, e => by
    obtain ⟨v, h3, h4⟩ := RVs.get (i := i) h2 (by simpa using e)
    exact ⟨v, by simpa using h3, h4⟩
theorem RVs.getV : ∀ {ds : List D} {vs : List V} {i : Nat} {v : V}, RVs K B S H vs ds → vs[i]? = some v → ∃ d, ds[i]? = some d ∧ RV K B S H v d
  | [], _, i, v, .nil, e => by simp at e
  | d :: ds, _, 0, _, .cons h1 h2, e => by simp at e; subst e; exact ⟨_, rfl, h1⟩
  | d :: ds, _, i + 1, _, .cons h1 h2, e => by
    obtain ⟨v, h3, h4⟩ := RVs.getV (i := i) h2 (by simpa using e)
    exact ⟨v, by simpa using h3, h4⟩
theorem RVs.append : ∀ {ds es : List D} {vs ws : List V}, RVs K B S H vs ds → RVs K B S H ws es → RVs K B S H (vs ++ ws) (ds ++ es)
  | [], _, _, _, .nil, h => h
  | d :: ds, _, _, _, .cons h1 h2, h => .cons h1 (RVs.append h2 h)
theorem RVs.take : ∀ {ds : List D} {vs : List V} (n : Nat), RVs K B S H vs ds → RVs K B S H (vs.take n) (ds.take n)
  | _, _, 0, _ => .nil
  | [], _, n + 1, .nil => .nil
  | d :: ds, _, n + 1, .cons h1 h2 => .cons h1 (RVs.take n h2)
theorem RVs.drop : ∀ {ds : List D} {vs : List V} (n : Nat), RVs K B S H vs ds → RVs K B S H (vs.drop n) (ds.drop n)
  | _, _, 0, h => h
  | [], _, n + 1, .nil => .nil
  | d :: ds, _, n + 1, .cons h1 h2 => RVs.drop n h2
theorem RVs.set {v : V} {d : D} (r : RV K B S H v d) : ∀ {ds : List D} {vs : List V} (i : Nat), RVs K B S H vs ds → RVs K B S H (vs.set i v) (ds.set i d)
  | [], _, _, .nil => .nil
  | _ :: _, _, 0, .cons _ h2 => .cons r h2
  | _ :: _, _, i + 1, .cons h1 h2 => .cons h1 (RVs.set r i h2)
theorem RVs.reverse : ∀ {ds : List D} {vs : List V}, RVs K B S H vs ds → RVs K B S H vs.reverse ds.reverse
  | [], _, .nil => .nil
  | d :: ds, _, .cons h1 h2 => by
    simp only [List.reverse_cons]
    exact RVs.append (RVs.reverse h2) (.cons h1 .nil)
theorem RVs.dropLast : ∀ {ds : List D} {vs : List V}, RVs K B S H vs ds → RVs K B S H vs.dropLast ds.dropLast := fun {ds vs} h => by
  rw [List.dropLast_eq_take, List.dropLast_eq_take, h.length]
  exact h.take _
theorem RVs.erase : ∀ {ds : List D} {vs : List V} (i : Nat), RVs K B S H vs ds → RVs K B S H (vs.eraseIdx i) (ds.eraseIdx i)
  | [], _, _, .nil => .nil
  | _ :: _, _, 0, .cons _ h2 => h2
  | _ :: _, _, i + 1, .cons h1 h2 => .cons h1 (RVs.erase i h2)
theorem RVs.rep {vs : List V} {ds : List D} (h : RVs K B S H vs ds) : ∀ k : Nat, RVs K B S H (List.replicate k vs).flatten (List.replicate k ds).flatten
  | 0 => .nil
  | k + 1 => by
    simp only [List.replicate_succ, List.flatten_cons]
    exact h.append (RVs.rep h k)
end

-- keys of tuples, as the library's keys
mutual
def keyD : D → NestedKey
  | .non => .none
  | .bl b => .num (if b then 1 else 0)
  | .int i => .num i
  | .str x => .text x
  | .tup ds => .tup (keyDs ds)
  | .lst _ => .none
  | .scr _ => .none
  | .ref _ => .none
def keyDs : List D → List NestedKey
  | [] => []
  | d :: ds => keyD d :: keyDs ds
end
-- what may be a key: no lists, no cells, no bools
mutual
def okKey : D → Bool
  | .non => true
  | .bl _ => false
  | .int _ => true
  | .str _ => true
  | .tup ds => okKeys ds
  | .lst _ => false
  | .scr _ => false
  | .ref _ => false
def okKeys : List D → Bool
  | [] => true
  | d :: ds => okKey d && okKeys ds
end
/-- a tuple that may be a key of a dict of tuples -/
def okTup : D → Bool
  | .tup ds => okKeys ds && decide ((keyD (.tup ds)).depth ≤ 8)
  | _ => false
def dLook (kvs : List (D × D)) (k : D) : Option D := (kvs.find? fun p => decide (keyD p.1 = keyD k)).map (·.2)
def dPut (kvs : List (D × D)) (k v : D) : List (D × D) := if (dLook kvs k).isSome then kvs.map (fun p => if keyD p.1 = keyD k then (p.1, v) else p) else kvs ++ [(k, v)]

/-- the entries of a dict of tuples, with where the keys stand -/
def NRel (K : PySem.W.Frag) (B : Wd) (S : Store) (H : Hp) (kvs : List (D × D)) (xs : List (NestedKey × Addr × Value)) : Prop :=
  Paired (fun (p : D × D) (x : NestedKey × Addr × Value) => okTup p.1 = true ∧ x.1 = keyD p.1 ∧ RV K B S H (.ref x.2.1) p.1 ∧ ∃ v, RelV v x.2.2 ∧ RV K B S H v p.2) kvs xs
def KRel (K : PySem.W.Frag) (B : Wd) (S : Store) (H : Hp) (kxs : List (Key × V)) (kvs : List (Key × D)) : Prop :=
  Paired (fun (p : Key × V) (q : Key × D) => p.1 = q.1 ∧ RV K B S H p.2 q.2) kxs kvs
/-- the object of a dict of tuples: its entries -/
def NObj (P : Program) (w : World) (o : Obj) (xs : List (NestedKey × Addr × Value)) : Prop :=
  o.ExactDict ∧ (∃ es ep, o.data = .dict es ep ∧ es.toList = xs.map (entryOfKey (nestedKind P w))) ∧ (xs.map (·.1)).Nodup
abbrev isO (a : Addr) (o : Obj) : HO := .ext fun h => h.get? a = some o

/-- what a cell holds -/
def CRl (P : Program) (w : World) (K : PySem.W.Frag) (B : Wd) (S : Store) (H : Hp) (a : Addr) : Cell → Prop
  | .dead => True
  | .lst ds => ∃ xs, H a = some (.lst xs) ∧ RVs K B S H xs ds
  | .dK lk kvs => ∃ kxs, KRel K B S H kxs kvs ∧ (if lk = true then ∃ o, H a = some (.frz o (.dK kxs)) else H a = some (.dK kxs))
  | .dN _ kvs => ∃ o xs, H a = some (isO a o) ∧ (a == sysModules) = false ∧ kvs.length ≤ sizeLine ∧ NObj P w o xs ∧ NRel K B S H kvs xs

structure RS (P : Program) (w : World) (K : PySem.W.Frag) (B : Wd) (S : Store) (H : Hp) : Prop where
  inj : ∀ i j ci cj, S[i]? = some ci → S[j]? = some cj → ci ≠ Cell.dead → cj ≠ Cell.dead → B i = B j → i = j
  cel : ∀ k c, S[k]? = some c → CRl P w K B S H (B k) c
  hdt : ∀ a, a ∈ B.hid → ∃ u, H a = some u
  hdn : ∀ a k c, a ∈ B.hid → S[k]? = some c → c ≠ Cell.dead → B k ≠ a

/-- the slots -/
structure RE (K : PySem.W.Frag) (B : Wd) (S : Store) (H : Hp) (σ : L2.St) (ρ : Env') : Prop where
  len : σ.length = ρ.length
  at_ : ∀ (i : Nat) (d : D), ρ[i]? = some (some d) → ∃ v : V, σ[i]? = some (some v) ∧ RV K B S H v d

section
variable {P : Program} {w : World} {K : PySem.W.Frag} {B B' : Wd} {S S' : Store} {H H' : Hp} {σ : L2.St} {ρ : Env'}
theorem paired_map {α β : Type} {F G : α → β → Prop} (h : ∀ a b, F a b → G a b) : ∀ {l : List α} {m : List β}, Paired F l m → Paired G l m
  | _, _, .nil => .nil
  | _, _, .cons r t => .cons (h _ _ r) (paired_map h t)
theorem KRel.mono {kxs : List (Key × V)} {kvs : List (Key × D)} (s : St0 B S H B' S' H') (r : KRel K B S H kxs kvs) : KRel K B' S' H' kxs kvs :=
  paired_map (fun _ _ h => ⟨h.1, RV.mono0 s _ _ h.2⟩) r
theorem NRel.mono {kvs : List (D × D)} {xs : List (NestedKey × Addr × Value)} (s : St0 B S H B' S' H') (r : NRel K B S H kvs xs) : NRel K B' S' H' kvs xs :=
  paired_map (fun _ _ h => ⟨h.1, h.2.1, RV.mono0 s _ _ h.2.2.1, let ⟨v, e, q⟩ := h.2.2.2; ⟨v, e, RV.mono0 s _ _ q⟩⟩) r
theorem CRl.mono {a : Addr} {c : Cell} (s : St0 B S H B' S' H') (e : H' a = H a) (r : CRl P w K B S H a c) : CRl P w K B' S' H' a c := by
  cases c with
  | dead => trivial
  | lst ds =>
    obtain ⟨xs, h, q⟩ := r
    exact ⟨xs, e.trans h, RVs.mono0 s _ _ q⟩
  | dK lk kvs =>
    obtain ⟨kxs, q, h⟩ := r
    refine ⟨kxs, q.mono s, ?_⟩
    cases lk with
    | true =>
      simp only [if_true] at h ⊢
      obtain ⟨o, h⟩ := h
      exact ⟨o, e.trans h⟩
    | false =>
      simp only [Bool.false_eq_true, if_false] at h ⊢
      exact e.trans h
  | dN lk kvs =>
    obtain ⟨o, xs, h, z, l, n, q⟩ := r
    exact ⟨o, xs, e.trans h, z, l, n, q.mono s⟩
theorem RE.mono0 (s : St0 B S H B' S' H') (r : RE K B S H σ ρ) : RE K B' S' H' σ ρ :=
  ⟨r.len, fun i d e => let ⟨v, h, q⟩ := r.at_ i d e; ⟨v, h, RV.mono0 s _ _ q⟩⟩
theorem RE.mono (s : Stp B S H B' S' H') (r : RE K B S H σ ρ) : RE K B' S' H' σ ρ := r.mono0 s.toSt0
/-- an owned address is tracked -/
theorem RS.there (r : RS P w K B S H) {a : Addr} (o : Owned B S a) : ∃ u, H a = some u := by
  rcases o with o | ⟨k, c, e, n, rfl⟩
  · exact r.hdt a o
  · have q := r.cel k c e
    cases c with
    | dead => exact absurd rfl n
    | lst ds => obtain ⟨xs, h, _⟩ := q; exact ⟨_, h⟩
    | dK lk kvs =>
      obtain ⟨kxs, _, h⟩ := q
      cases lk with
      | true => simp only [if_true] at h; obtain ⟨o, h⟩ := h; exact ⟨_, h⟩
      | false => simp only [Bool.false_eq_true, if_false] at h; exact ⟨_, h⟩
    | dN lk kvs => obtain ⟨o, xs, h, _⟩ := q; exact ⟨_, h⟩
theorem RS.fresh (r : RS P w K B S H) {a : Addr} (n : H a = none) : ¬ Owned B S a := fun o => by
  obtain ⟨u, h⟩ := r.there o
  rw [n] at h; cases h
/-- a new object, not owned -/
theorem Stp.new {a : Addr} {o : HO} (r : RS P w K B S H) (n : H a = none) : Stp B S H B S (upd H a o) :=
  ⟨⟨Nat.le_refl _, fun _ _ => rfl, fun b u h _ => by rw [upd_ne (ne_of_none h n)]; exact h, fun _ _ _ h => h⟩, rfl, fun b hb => upd_ne (let ⟨_, h⟩ := r.hdt b hb; ne_of_none h n)⟩
theorem RS.new {a : Addr} {o : HO} (r : RS P w K B S H) (n : H a = none) : RS P w K B S (upd H a o) := by
  refine ⟨r.inj, fun k c e => ?_, fun b hb => ?_, r.hdn⟩
  · cases c with
    | dead => trivial
    | _ =>
      refine (r.cel k _ e).mono (Stp.new r n).toSt0 ?_
      obtain ⟨u, h⟩ := r.there (.inr ⟨k, _, e, by simp, rfl⟩)
      rw [upd_ne (ne_of_none h n)]
  · obtain ⟨u, h⟩ := r.hdt b hb
    exact ⟨u, by rw [upd_ne (ne_of_none h n)]; exact h⟩
theorem RV.newTup {a : Addr} {xs : List V} {ds : List D} (r : RS P w K B S H) (n : H a = none) (q : RVs K B S H xs ds) : RV K B S (upd H a (.tup xs)) (.ref a) (.tup ds) :=
  .tup upd_same (r.fresh n) (RVs.mono (Stp.new r n) _ _ q)
theorem RV.newLst {a : Addr} {xs : List V} {ds : List D} (r : RS P w K B S H) (n : H a = none) (q : RVs K B S H xs ds) : RV K B S (upd H a (.lst xs)) (.ref a) (.lst ds) :=
  .lst upd_same (r.fresh n) (RVs.mono (Stp.new r n) _ _ q)
/-- a cell more -/
abbrev addB (B : Wd) (n : Nat) (a : Addr) : Wd := ⟨fun k => if k = n then a else B k, B.hid⟩
theorem addB_lt {k n : Nat} {a : Addr} (h : k < n) : addB B n a k = B k := by
  show (if k = n then a else B k) = B k
  rw [if_neg (Nat.ne_of_lt h)]
theorem addB_self {n : Nat} {a : Addr} : addB B n a n = a := by
  show (if n = n then a else B n) = a
  rw [if_pos rfl]
theorem at_add {k : Nat} {c d : Cell} (e : (S ++ [c])[k]? = some d) : (k < S.length ∧ S[k]? = some d) ∨ (k = S.length ∧ d = c) := by
  rw [List.getElem?_append] at e
  split at e
  · rename_i hl; exact .inl ⟨hl, e⟩
  · rename_i hl
    by_cases hk : k = S.length
    · subst hk; simp at e; exact .inr ⟨rfl, e.symm⟩
    · have : k - S.length ≠ 0 := by omega
      obtain ⟨m, hm⟩ := Nat.exists_eq_succ_of_ne_zero this
      rw [hm] at e; simp at e
theorem owned_add {a b : Addr} {c : Cell} : Owned (addB B S.length a) (S ++ [c]) b → b = a ∨ Owned B S b := by
  rintro (h | ⟨k, d, e, n, h⟩)
  · exact .inr (.inl h)
  · rcases at_add e with ⟨lk, e⟩ | ⟨ek, _⟩
    · rw [addB_lt lk] at h
      exact .inr (.inr ⟨k, d, e, n, h⟩)
    · rw [ek, addB_self] at h
      exact .inl h.symm
theorem Stp.add {a : Addr} {o : HO} {c : Cell} (r : RS P w K B S H) (n : H a = none) : Stp B S H (addB B S.length a) (S ++ [c]) (upd H a o) := by
  refine ⟨⟨by simp, fun k hk => addB_lt hk, fun b u h _ => by rw [upd_ne (ne_of_none h n)]; exact h, fun b u h w => ?_⟩, rfl, fun b hb => upd_ne (let ⟨_, h⟩ := r.hdt b hb; ne_of_none h n)⟩
  rcases owned_add w with e | e
  · subst e; rw [n] at h; cases h
  · exact e
theorem RS.add {a : Addr} {o : HO} {c : Cell} (r : RS P w K B S H) (n : H a = none) (q : CRl P w K (addB B S.length a) (S ++ [c]) (upd H a o) a c) : RS P w K (addB B S.length a) (S ++ [c]) (upd H a o) := by
  refine ⟨fun i j ci cj ei ej ni nj e => ?_, fun k d e => ?_, fun b hb => ?_, fun b k d hb e nd => ?_⟩
  · rcases at_add ei with ⟨li, hi⟩ | ⟨li, hi⟩ <;> rcases at_add ej with ⟨lj, hj⟩ | ⟨lj, hj⟩
    · rw [addB_lt li, addB_lt lj] at e
      exact r.inj i j ci cj hi hj ni nj e
    · subst lj
      rw [addB_lt li, addB_self] at e
      obtain ⟨u, h⟩ := r.there (.inr ⟨i, ci, hi, ni, e⟩)
      rw [n] at h; cases h
    · subst li
      rw [addB_lt lj, addB_self] at e
      obtain ⟨u, h⟩ := r.there (.inr ⟨j, cj, hj, nj, e.symm⟩)
      rw [n] at h; cases h
    · rw [li, lj]
  · rcases at_add e with ⟨li, hi⟩ | ⟨li, hi⟩
    · rw [addB_lt li]
      cases d with
      | dead => trivial
      | _ =>
        refine (r.cel k _ hi).mono (Stp.add r n).toSt0 ?_
        obtain ⟨u, h⟩ := r.there (.inr ⟨k, _, hi, by simp, rfl⟩)
        rw [upd_ne (ne_of_none h n)]
    · subst li; subst hi
      rw [addB_self]
      exact q
  · obtain ⟨u, h⟩ := r.hdt b hb
    exact ⟨u, by rw [upd_ne (ne_of_none h n)]; exact h⟩
  · rcases at_add e with ⟨li, hi⟩ | ⟨li, hi⟩
    · rw [addB_lt li]
      exact r.hdn b k d hb hi nd
    · subst li
      rw [addB_self]
      rintro rfl
      obtain ⟨u, h⟩ := r.hdt _ hb
      rw [n] at h; cases h
/-- a cell changed -/
theorem owned_set {k : Nat} {c d : Cell} (e : S[k]? = some d) (nd : d ≠ Cell.dead) {a : Addr} (h : Owned B (S.set k c) a) : Owned B S a := by
  rcases h with h | ⟨i, u, ei, ni, hi⟩
  · exact .inl h
  · by_cases hk : i = k
    · subst hk; exact .inr ⟨i, d, e, nd, hi⟩
    · rw [List.getElem?_set_ne (Ne.symm hk)] at ei
      exact .inr ⟨i, u, ei, ni, hi⟩
theorem Stp.set {k : Nat} {c d : Cell} {o : HO} (r : RS P w K B S H) (e : S[k]? = some d) (nd : d ≠ Cell.dead) : Stp B S H B (S.set k c) (upd H (B k) o) :=
  ⟨⟨by simp, fun _ _ => rfl, fun b u h n => by
    rw [upd_ne]
    · exact h
    · rintro rfl; exact n (.inr ⟨k, d, e, nd, rfl⟩), fun b u _ w => owned_set e nd w⟩, rfl, fun b hb => upd_ne (Ne.symm (r.hdn b k d hb e nd))⟩
theorem RS.set {k : Nat} {c d : Cell} {o : HO} (r : RS P w K B S H) (e : S[k]? = some d) (nd : d ≠ Cell.dead) (q : CRl P w K B (S.set k c) (upd H (B k) o) (B k) c) : RS P w K B (S.set k c) (upd H (B k) o) := by
  have f : ∀ {i : Nat} {ci : Cell}, (S.set k c)[i]? = some ci → ci ≠ Cell.dead → ∃ ci', S[i]? = some ci' ∧ ci' ≠ Cell.dead := fun {i ci} h n => by
    by_cases hk : i = k
    · subst hk; exact ⟨d, e, nd⟩
    · rw [List.getElem?_set_ne (Ne.symm hk)] at h; exact ⟨ci, h, n⟩
  refine ⟨fun i j ci cj ei ej ni nj eq => ?_, fun i u ei => ?_, fun b hb => ?_, fun b i u hb ei ni => ?_⟩
  · obtain ⟨ci', hi, ni'⟩ := f ei ni
    obtain ⟨cj', hj, nj'⟩ := f ej nj
    exact r.inj i j ci' cj' hi hj ni' nj' eq
  · by_cases hk : i = k
    · subst hk
      have hl : i < S.length := (List.getElem?_eq_some_iff.mp e).1
      rw [List.getElem?_set_self hl] at ei
      cases ei
      exact q
    · rw [List.getElem?_set_ne (Ne.symm hk)] at ei
      cases u with
      | dead => trivial
      | _ =>
        refine (r.cel i _ ei).mono (Stp.set r e nd).toSt0 ?_
        rw [upd_ne]
        intro z
        exact hk (r.inj i k _ d ei e (by simp) nd z)
  · obtain ⟨u, h⟩ := r.hdt b hb
    exact ⟨u, by rw [upd_ne (Ne.symm (r.hdn b k d hb e nd))]; exact h⟩
  · obtain ⟨ci', hi, ni'⟩ := f ei ni
    exact r.hdn b i ci' hb hi ni'
/-- a cell dies, its list is read alone from then on -/
theorem at_die {k i : Nat} {ci : Cell} (h : (S.set k .dead)[i]? = some ci) (n : ci ≠ Cell.dead) : S[i]? = some ci ∧ i ≠ k := by
  by_cases hk : i = k
  · subst hk
    rw [List.getElem?_set] at h
    simp only [if_true] at h
    split at h
    · cases h; exact absurd rfl n
    · cases h
  · rw [List.getElem?_set_ne (Ne.symm hk)] at h; exact ⟨h, hk⟩
theorem Stp.die {k : Nat} : Stp B S H B (S.set k .dead) H :=
  ⟨⟨by simp, fun _ _ => rfl, fun _ _ h _ => h, fun b u _ o => by
    rcases o with o | ⟨i, c, ei, ni, hi⟩
    · exact .inl o
    · exact .inr ⟨i, c, (at_die ei ni).1, ni, hi⟩⟩, rfl, fun _ _ => rfl⟩
theorem RS.die {k : Nat} (r : RS P w K B S H) : RS P w K B (S.set k .dead) H := by
  refine ⟨fun i j ci cj ei ej ni nj eq => r.inj i j ci cj (at_die ei ni).1 (at_die ej nj).1 ni nj eq, fun i u ei => ?_, r.hdt, fun b i u hb ei ni => r.hdn b i u hb (at_die ei ni).1 ni⟩
  cases u with
  | dead => trivial
  | _ => exact (r.cel i _ (at_die ei (by simp)).1).mono Stp.die.toSt0 rfl
theorem RV.died {k : Nat} {ds : List D} (r : RS P w K B S H) (e : S[k]? = some (.lst ds)) : RV K B (S.set k .dead) H (.ref (B k)) (.lst ds) := by
  obtain ⟨xs, h, q⟩ := r.cel k _ e
  refine .lst h (fun o => ?_) (RVs.mono Stp.die _ _ q)
  rcases o with o | ⟨i, c, ei, ni, hi⟩
  · exact r.hdn _ k _ o e (by simp) rfl
  · obtain ⟨ei, hk⟩ := at_die ei ni
    exact hk (r.inj i k _ _ ei e ni (by simp) hi)
/-- what is hidden from now on: a new address -/
abbrev hideB (B : Wd) (a : Addr) : Wd := ⟨B.at_, a :: B.hid⟩
theorem St0.hide {a : Addr} {o : HO} (n : H a = none) : St0 B S H (hideB B a) S (upd H a o) :=
  ⟨Nat.le_refl _, fun _ _ => rfl, fun b u h _ => by rw [upd_ne (ne_of_none h n)]; exact h, fun b u h w => by
    rcases w with w | w
    · rcases List.mem_cons.mp w with e | w
      · subst e; rw [n] at h; cases h
      · exact .inl w
    · exact .inr w⟩
theorem RS.hide {a : Addr} {o : HO} (r : RS P w K B S H) (n : H a = none) : RS P w K (hideB B a) S (upd H a o) := by
  refine ⟨r.inj, fun k c e => ?_, fun b hb => ?_, fun b k c hb e nc => ?_⟩
  · cases c with
    | dead => trivial
    | _ =>
      refine (r.cel k _ e).mono (St0.hide n) ?_
      obtain ⟨u, h⟩ := r.there (.inr ⟨k, _, e, by simp, rfl⟩)
      rw [upd_ne (ne_of_none h n)]
  · rcases List.mem_cons.mp hb with e | hb
    · subst e; exact ⟨o, upd_same⟩
    · obtain ⟨u, h⟩ := r.hdt b hb
      exact ⟨u, by rw [upd_ne (ne_of_none h n)]; exact h⟩
  · rcases List.mem_cons.mp hb with z | hb
    · subst z
      intro z
      obtain ⟨u, h⟩ := r.there (.inr ⟨k, c, e, nc, z⟩)
      rw [n] at h; cases h
    · exact r.hdn b k c hb e nc
/-- the hidden one is changed -/
theorem St0.hid {a : Addr} {o : HO} (h : a ∈ B.hid) : St0 B S H B S (upd H a o) :=
  ⟨Nat.le_refl _, fun _ _ => rfl, fun b u e n => by rw [upd_ne (by intro z; subst z; exact n (.inl h))]; exact e, fun _ _ _ w => w⟩
theorem RS.hid {a : Addr} {o : HO} (r : RS P w K B S H) (h : a ∈ B.hid) : RS P w K B S (upd H a o) := by
  refine ⟨r.inj, fun k c e => ?_, fun b hb => ?_, r.hdn⟩
  · cases c with
    | dead => trivial
    | _ =>
      refine (r.cel k _ e).mono (St0.hid h) ?_
      rw [upd_ne (r.hdn a k _ h e (by simp))]
  · by_cases z : b = a
    · subst z; exact ⟨o, upd_same⟩
    · obtain ⟨u, q⟩ := r.hdt b hb
      exact ⟨u, by rw [upd_ne z]; exact q⟩
end
end DL

/-! Judgements of the data layer, and its first rules. -/
namespace DL
open PySem PySem.Spec PyProof.Rows L2

abbrev DE := Env' → Store → Option (D × Store)
abbrev DT := Env' → Store → Option (Bool × Store)
abbrev DA := Env' → Store → Option (List D × Store)
inductive Fl where
  | nx (ρ : Env') (S : Store) | rt (d : D) (S : Store) | bk (ρ : Env') (S : Store) | ct (ρ : Env') (S : Store)
abbrev DS := Env' → Store → Option Fl

section
variable (P : Program) (w : World) (K : PySem.W.Frag)
def tD (c : DE) : TE := fun σ H Q => ∃ B ρ S d S', RS P w K B S H ∧ RE K B S H σ ρ ∧ c ρ S = some (d, S') ∧
  ∀ B' v H', Stp B S H B' S' H' → RS P w K B' S' H' → RV K B' S' H' v d → Q v H'
def tT (c : DT) : TT := fun σ H Q => ∃ B ρ S d S', RS P w K B S H ∧ RE K B S H σ ρ ∧ c ρ S = some (d, S') ∧
  ∀ B' H', Stp B S H B' S' H' → RS P w K B' S' H' → Q d H'
def tAs (c : DA) : TA := fun σ H Q => ∃ B ρ S ds S', RS P w K B S H ∧ RE K B S H σ ρ ∧ c ρ S = some (ds, S') ∧
  ∀ B' vs H', Stp B S H B' S' H' → RS P w K B' S' H' → RVs K B' S' H' vs ds → Q vs H'
/-- what is wanted behind a statement, from the state at its beginning on -/
def endF (E : Ends) (B : Wd) (S : Store) (H : Hp) : Fl → Prop
  | .nx ρ' S' => ∀ B' σ' H', Stp B S H B' S' H' → RS P w K B' S' H' → RE K B' S' H' σ' ρ' → E.nx σ' H'
  | .rt d S' => ∀ B' v H', Stp B S H B' S' H' → RS P w K B' S' H' → RV K B' S' H' v d → E.rt v H'
  | .bk ρ' S' => ∀ B' σ' H', Stp B S H B' S' H' → RS P w K B' S' H' → RE K B' S' H' σ' ρ' → E.bk σ' H'
  | .ct ρ' S' => ∀ B' σ' H', Stp B S H B' S' H' → RS P w K B' S' H' → RE K B' S' H' σ' ρ' → E.ct σ' H'
def tS (c : DS) : TS := fun E σ H => ∃ B ρ S f, RS P w K B S H ∧ RE K B S H σ ρ ∧ c ρ S = some f ∧ endF P w K E B S H f
end
abbrev PD (X : Cx) (e : Expr) (c : DE) : Prop := PE X e (tD X.prog X.w X.K c)
abbrev PDT (X : Cx) (e : Expr) (c : DT) : Prop := PT X e (tT X.prog X.w X.K c)
abbrev PDW (X : Cx) (e : Expr) (c : DT) : Prop := PW X e (tT X.prog X.w X.K c)
abbrev PDA (X : Cx) (es : List Expr) (c : DA) : Prop := PA X es (tAs X.prog X.w X.K c)
abbrev PDS (X : Cx) (s : Stmt) (c : DS) : Prop := PS X s (tS X.prog X.w X.K c)
abbrev PDSs (X : Cx) (s : List Stmt) (c : DS) : Prop := PSs X s (tS X.prog X.w X.K c)

section
variable {X : Cx}
theorem pe_imp {e : Expr} {t t' : TE} (h : PE X e t) (i : ∀ σ H Q, t' σ H Q → t σ H Q) : PE X e t' := ⟨fun pins s σ H Q I hw => h.run pins s σ H Q I (i σ H Q hw)⟩
theorem pt_imp {e : Expr} {t t' : TT} (h : PT X e t) (i : ∀ σ H Q, t' σ H Q → t σ H Q) : PT X e t' := ⟨fun pins s σ H Q I hw => h.run pins s σ H Q I (i σ H Q hw)⟩
theorem pw_imp {e : Expr} {t t' : TT} (h : PW X e t) (i : ∀ σ H Q, t' σ H Q → t σ H Q) : PW X e t' := ⟨fun wh pins s σ H Q I hw => h.run wh pins s σ H Q I (i σ H Q hw)⟩
theorem pa_imp {e : List Expr} {t t' : TA} (h : PA X e t) (i : ∀ σ H Q, t' σ H Q → t σ H Q) : PA X e t' := ⟨fun pos pins s σ H Q I hw => h.run pos pins s σ H Q I (i σ H Q hw)⟩
theorem ps_imp {s : Stmt} {t t' : TS} (h : PS X s t) (i : ∀ D σ H, t' D σ H → t D σ H) : PS X s t' := ⟨fun pins st σ H D I hw => h.run pins st σ H D I (i D σ H hw)⟩
theorem pss_imp {s : List Stmt} {t t' : TS} (h : PSs X s t) (i : ∀ D σ H, t' D σ H → t D σ H) : PSs X s t' := ⟨fun pins st σ H D I hw => h.run pins st σ H D I (i D σ H hw)⟩
end

/-! ### expressions -/
def cVar (i : Nat) : DE := fun ρ S => match ρ[i]? with
  | some (some d) => some (d, S)
  | _ => none
def cC (d : D) : DE := fun _ S => some (d, S)
def cBin (f : D → D → Store → Option (D × Store)) (a b : DE) : DE := fun ρ S => match a ρ S with
  | some (x, S1) => (match b ρ S1 with
    | some (y, S2) => f x y S2
    | none => none)
  | none => none
def cUn (f : D → Store → Option (D × Store)) (a : DE) : DE := fun ρ S => match a ρ S with
  | some (x, S1) => f x S1
  | none => none
def cNil : DA := fun _ S => some ([], S)
def cCons (a : DE) (r : DA) : DA := fun ρ S => match a ρ S with
  | some (x, S1) => (match r ρ S1 with
    | some (xs, S2) => some (x :: xs, S2)
    | none => none)
  | none => none
/-- what a call of values does -/
def cApp (f : List D → Store → Option (D × Store)) (a : DA) : DE := fun ρ S => match a ρ S with
  | some (xs, S1) => f xs S1
  | none => none

section
variable {X : Cx} {a b c : Expr} {ca cb cc : DE} {pos : Pos}
theorem pd_var (i : Nat) {x : Str} (h : PE X (.Name x pos) (tVar i)) : PD X (.Name x pos) (cVar i) := pe_imp h fun σ H Q ⟨B, ρ, S, d, S', hs, he, e, k⟩ => by
  unfold cVar at e
  split at e
  · rename_i d' hd
    cases e
    obtain ⟨v, h1, h2⟩ := he.at_ i _ hd
    exact ⟨v, h1, k B v H (Stp.refl ..) hs h2⟩
  · cases e
theorem pd_const {v : V} {d : D} (h : PE X a (tC v)) (r : ∀ B S H, RV X.K B S H v d) : PD X a (cC d) := pe_imp h fun σ H Q ⟨B, ρ, S, d, S', hs, he, e, k⟩ => by
  cases e
  exact k B v H (Stp.refl ..) hs (r _ _ _)
theorem pd_int {i : Int} {j : Nat} : PD X (.Constant (.int i) j pos) (cC (.int i)) := pd_const pe_int fun _ _ _ => .int i
theorem pd_bl {i : Bool} {j : Nat} : PD X (.Constant (.bool i) j pos) (cC (.bl i)) := pd_const pe_bl fun _ _ _ => .bl i
theorem pd_non {j : Nat} : PD X (.Constant .none j pos) (cC .non) := pd_const pe_non fun _ _ _ => .non
theorem pd_str {i : Str} {j : Nat} : PD X (.Constant (.str i) j pos) (cC (.str i)) := pd_const pe_str fun _ _ _ => .str i

/-- the meaning of a value-level reading by plain data -/
def Ok2 (P : Program) (w : World) (K : PySem.W.Frag) (r : R2) (f : D → D → Store → Option (D × Store)) : Prop :=
  ∀ B S H x y dx dy d S' (Q : VK), RS P w K B S H → RV K B S H x dx → RV K B S H y dy → f dx dy S = some (d, S') →
    (∀ B' v H', Stp B S H B' S' H' → RS P w K B' S' H' → RV K B' S' H' v d → Q v H') → r x y H Q
def Ok1 (P : Program) (w : World) (K : PySem.W.Frag) (r : V → Hp → VK → Prop) (f : D → Store → Option (D × Store)) : Prop :=
  ∀ B S H x dx d S' (Q : VK), RS P w K B S H → RV K B S H x dx → f dx S = some (d, S') →
    (∀ B' v H', Stp B S H B' S' H' → RS P w K B' S' H' → RV K B' S' H' v d → Q v H') → r x H Q
def OkN (P : Program) (w : World) (K : PySem.W.Frag) (r : List V → Hp → VK → Prop) (f : List D → Store → Option (D × Store)) : Prop :=
  ∀ B S H xs dxs d S' (Q : VK), RS P w K B S H → RVs K B S H xs dxs → f dxs S = some (d, S') →
    (∀ B' v H', Stp B S H B' S' H' → RS P w K B' S' H' → RV K B' S' H' v d → Q v H') → r xs H Q

/-- two expressions, one behind the other -/
theorem tD_bin {P : Program} {w : World} {K : PySem.W.Frag} {ca cb : DE} {f : D → D → Store → Option (D × Store)} {σ : L2.St} {H : Hp} {Q : VK} {R : V → V → Hp → Prop}
    (h : tD P w K (cBin f ca cb) σ H Q)
    (q : ∀ B S H x y dx dy d S', RS P w K B S H → RV K B S H x dx → RV K B S H y dy → f dx dy S = some (d, S') → (∀ B' v H', Stp B S H B' S' H' → RS P w K B' S' H' → RV K B' S' H' v d → Q v H') → R x y H) :
    tD P w K ca σ H fun x H1 => tD P w K cb σ H1 fun y H2 => R x y H2 := by
  obtain ⟨B, ρ, S, d, S', hs, he, e, k⟩ := h
  unfold cBin at e
  split at e
  · rename_i x S1 e1
    split at e
    · rename_i y S2 e2
      refine ⟨B, ρ, S, x, S1, hs, he, e1, fun B1 v1 H1 st1 hs1 r1 => ?_⟩
      refine ⟨B1, ρ, S1, y, S2, hs1, he.mono st1, e2, fun B2 v2 H2 st2 hs2 r2 => ?_⟩
      exact q B2 S2 H2 v1 v2 x y d S' hs2 (RV.mono st2 _ _ r1) r2 e fun B' v H' st hs' r => k B' v H' ((st1.trans st2).trans st) hs' r
    · cases e
  · cases e
theorem tD_un {P : Program} {w : World} {K : PySem.W.Frag} {ca : DE} {f : D → Store → Option (D × Store)} {σ : L2.St} {H : Hp} {Q : VK} {R : V → Hp → Prop}
    (h : tD P w K (cUn f ca) σ H Q)
    (q : ∀ B S H x dx d S', RS P w K B S H → RV K B S H x dx → f dx S = some (d, S') → (∀ B' v H', Stp B S H B' S' H' → RS P w K B' S' H' → RV K B' S' H' v d → Q v H') → R x H) :
    tD P w K ca σ H R := by
  obtain ⟨B, ρ, S, d, S', hs, he, e, k⟩ := h
  unfold cUn at e
  split at e
  · rename_i x S1 e1
    exact ⟨B, ρ, S, x, S1, hs, he, e1, fun B1 v1 H1 st1 hs1 r1 => q B1 S1 H1 v1 x d S' hs1 r1 e fun B' v H' st hs' r => k B' v H' (st1.trans st) hs' r⟩
  · cases e
theorem tD_app {P : Program} {w : World} {K : PySem.W.Frag} {ca : DA} {f : List D → Store → Option (D × Store)} {σ : L2.St} {H : Hp} {Q : VK} {R : List V → Hp → Prop}
    (h : tD P w K (cApp f ca) σ H Q)
    (q : ∀ B S H xs dxs d S', RS P w K B S H → RVs K B S H xs dxs → f dxs S = some (d, S') → (∀ B' v H', Stp B S H B' S' H' → RS P w K B' S' H' → RV K B' S' H' v d → Q v H') → R xs H) :
    tAs P w K ca σ H R := by
  obtain ⟨B, ρ, S, d, S', hs, he, e, k⟩ := h
  unfold cApp at e
  split at e
  · rename_i x S1 e1
    exact ⟨B, ρ, S, x, S1, hs, he, e1, fun B1 v1 H1 st1 hs1 r1 => q B1 S1 H1 v1 x d S' hs1 r1 e fun B' v H' st hs' r => k B' v H' (st1.trans st) hs' r⟩
  · cases e
theorem pda_nil : PDA X [] cNil := pa_imp pa_nil fun σ H Q ⟨B, ρ, S, d, S', hs, he, e, k⟩ => by
  cases e
  exact k B [] H (Stp.refl ..) hs .nil
theorem pda_cons {es : List Expr} {cr : DA} (ha : PD X a ca) (hr : PDA X es cr) (hs : starEach (a :: es) X.env = (false, eval a X.env) :: starEach es X.env := by rfl) : PDA X (a :: es) (cCons ca cr) :=
  pa_imp (pa_cons ha hr hs) fun σ H Q ⟨B, ρ, S, d, S', hs, he, e, k⟩ => by
    unfold cCons at e
    split at e
    · rename_i x S1 e1
      split at e
      · rename_i xs S2 e2
        cases e
        exact ⟨B, ρ, S, x, S1, hs, he, e1, fun B1 v1 H1 st1 hs1 r1 => ⟨B1, ρ, S1, xs, _, hs1, he.mono st1, e2, fun B2 v2 H2 st2 hs2 r2 => k B2 _ H2 (st1.trans st2) hs2 (.cons (RV.mono st2 _ _ r1) r2)⟩⟩
      · cases e
    · cases e
theorem pd_op {op : Operator} {r : R2} {f : D → D → Store → Option (D × Store)} (ho : OpR X (binaryOp op) r) (hf : Ok2 X.prog X.w X.K r f) (ha : PD X a ca) (hb : PD X b cb) : PD X (.BinOp a op b pos) (cBin f ca cb) :=
  pe_imp (pe_op ho ha hb) fun σ H Q h => tD_bin h fun B S H x y dx dy d S' hs rx ry e k => hf B S H x y dx dy d S' Q hs rx ry e k
theorem pd_un {op : UnaryOp} {r : V → Hp → VK → Prop} {f : D → Store → Option (D × Store)} (ho : UnR X (unaryOp op) r) (hf : Ok1 X.prog X.w X.K r f) (ha : PD X a ca) : PD X (.UnaryOp op a pos) (cUn f ca) :=
  pe_imp (pe_un ho ha) fun σ H Q h => tD_un h fun B S H x dx d S' hs rx e k => hf B S H x dx d S' Q hs rx e k
theorem pd_cmp {op : CmpOp} {r : R2} {f : D → D → Store → Option (D × Store)} (ho : OpR X (compareOp op) r) (hf : Ok2 X.prog X.w X.K r f) (hm : behindInMarks op b = false) (ha : PD X a ca) (hb : PD X b cb) : PD X (.Compare a [op] [b] pos) (cBin f ca cb) :=
  pe_imp (pe_cmpR ho ha hb hm) fun σ H Q h => tD_bin h fun B S H x y dx dy d S' hs rx ry e k => hf B S H x y dx dy d S' Q hs rx ry e k
/-- a built-in function, a built-in type, called -/
theorem pd_callB {x : Str} {id : String} {p : Pos} {e : Expr} {es : List Expr} {r : List V → Hp → VK → Prop} {f : List D → Store → Option (D × Store)} {cs : DA} (hc : CallR X (.builtin id) r) (hf : OkN X.prog X.w X.K r f) (hg : Gl X x) (hm : X.mg x = none) (hv : bootBuiltins x = some (.builtin id))
    (hn : x ≠ "__name__") (hdb : (x == ("__debug__" : Str)) = false) (ha : PDA X (e :: es) cs)
    (he : starEach (e :: es) X.env = (false, eval e X.env) :: starEach es X.env := by rfl) (hpl : (backTo pos (starEach es X.env)).any (·.1) = false := by rfl) : PD X (.Call (.Name x p) (e :: es) [] pos) (cApp f cs) :=
  pe_imp (pe_callB hc hg hm hv ha hn hdb he hpl) fun σ H Q h => tD_app h fun B S H xs dxs d S' hs rx e k => hf B S H xs dxs d S' Q hs rx e k
theorem pd_callTy {x : Str} {T : String} {p : Pos} {e : Expr} {es : List Expr} {r : List V → Hp → VK → Prop} {f : List D → Store → Option (D × Store)} {cs : DA} (hc : CallR X (.type T) r) (hf : OkN X.prog X.w X.K r f) (hg : Gl X x) (hm : X.mg x = none) (hv : bootBuiltins x = some (.type T))
    (hn : x ≠ "__name__") (hdb : (x == ("__debug__" : Str)) = false) (ha : PDA X (e :: es) cs)
    (he : starEach (e :: es) X.env = (false, eval e X.env) :: starEach es X.env := by rfl) (hpl : (backTo pos (starEach es X.env)).any (·.1) = false := by rfl) : PD X (.Call (.Name x p) (e :: es) [] pos) (cApp f cs) :=
  pe_imp (pe_callTy hc hg hm hv ha hn hdb he hpl) fun σ H Q h => tD_app h fun B S H xs dxs d S' hs rx e k => hf B S H xs dxs d S' Q hs rx e k

/-! ### displays -/
def mkTup : List D → Store → Option (D × Store) := fun xs S => if xs.length ≤ sizeLine then some (.tup xs, S) else none
def mkLst : List D → Store → Option (D × Store) := fun xs S => if xs.length ≤ sizeLine then some (.lst xs, S) else none
def mkBox : List D → Store → Option (D × Store) := fun xs S => if xs.length ≤ sizeLine then some (.ref S.length, S ++ [.lst xs]) else none
theorem ok_mkTup {P : Program} {w : World} {K : PySem.W.Frag} : OkN P w K (fun xs H1 Q => xs.length ≤ sizeLine ∧ ∀ p, H1 p = none → Q (.ref p) (upd H1 p (.tup xs))) mkTup := fun B S H xs dxs d S' Q hs rx e k => by
  unfold mkTup at e
  split at e
  · rename_i hl
    cases e
    exact ⟨by rw [rx.length]; exact hl, fun p hp => k B _ _ (Stp.new hs hp) (hs.new hp) (RV.newTup hs hp rx)⟩
  · cases e
theorem ok_mkLst {P : Program} {w : World} {K : PySem.W.Frag} : OkN P w K (fun xs H1 Q => xs.length ≤ sizeLine ∧ ∀ p, H1 p = none → Q (.ref p) (upd H1 p (.lst xs))) mkLst := fun B S H xs dxs d S' Q hs rx e k => by
  unfold mkLst at e
  split at e
  · rename_i hl
    cases e
    exact ⟨by rw [rx.length]; exact hl, fun p hp => k B _ _ (Stp.new hs hp) (hs.new hp) (RV.newLst hs hp rx)⟩
  · cases e
theorem box_new {P : Program} {w : World} {K : PySem.W.Frag} {B : Wd} {S : Store} {H : Hp} {xs : List V} {ds : List D} {p : Addr} (hs : RS P w K B S H) (rx : RVs K B S H xs ds) (hp : H p = none) :
    Stp B S H (addB B S.length p) (S ++ [.lst ds]) (upd H p (.lst xs)) ∧ RS P w K (addB B S.length p) (S ++ [.lst ds]) (upd H p (.lst xs)) ∧ RV K (addB B S.length p) (S ++ [.lst ds]) (upd H p (.lst xs)) (.ref p) (.ref S.length) := by
  have st : Stp B S H (addB B S.length p) (S ++ [.lst ds]) (upd H p (.lst xs)) := Stp.add hs hp
  refine ⟨st, hs.add hp ⟨xs, upd_same, RVs.mono st _ _ rx⟩, ?_⟩
  have e : (V.ref p) = V.ref (addB B S.length p S.length) := by rw [addB_self]
  rw [e]
  exact .ref (by simp)
theorem ok_mkBox {P : Program} {w : World} {K : PySem.W.Frag} : OkN P w K (fun xs H1 Q => xs.length ≤ sizeLine ∧ ∀ p, H1 p = none → Q (.ref p) (upd H1 p (.lst xs))) mkBox := fun B S H xs dxs d S' Q hs rx e k => by
  unfold mkBox at e
  split at e
  · rename_i hl
    cases e
    refine ⟨by rw [rx.length]; exact hl, fun p hp => ?_⟩
    obtain ⟨h1, h2, h3⟩ := box_new hs rx hp
    exact k _ _ _ h1 h2 h3
  · cases e
theorem pd_tup {es : List Expr} {cs : DA} {x1 : Nat} (ha : PDA X es cs) : PD X (.Tuple es x1 pos) (cApp mkTup cs) :=
  pe_imp (pe_tup ha) fun σ H Q h => tD_app h fun B S H xs dxs d S' hs rx e k => ok_mkTup B S H xs dxs d S' Q hs rx e k
theorem pd_lst {es : List Expr} {cs : DA} (ha : PDA X es cs) : PD X (.List es pos) (cApp mkLst cs) :=
  pe_imp (pe_lst ha) fun σ H Q h => tD_app h fun B S H xs dxs d S' hs rx e k => ok_mkLst B S H xs dxs d S' Q hs rx e k
theorem pd_lstB {es : List Expr} {cs : DA} (ha : PDA X es cs) : PD X (.List es pos) (cApp mkBox cs) :=
  pe_imp (pe_lst ha) fun σ H Q h => tD_app h fun B S H xs dxs d S' hs rx e k => ok_mkBox B S H xs dxs d S' Q hs rx e k

/-! ### tests -/
def cB (a : DE) : DT := fun ρ S => match a ρ S with
  | some (.bl b, S1) => some (b, S1)
  | _ => none
def cAnd (a b : DT) : DT := fun ρ S => match a ρ S with
  | some (true, S1) => b ρ S1
  | r => r
def cOr (a b : DT) : DT := fun ρ S => match a ρ S with
  | some (false, S1) => b ρ S1
  | r => r
def cNot (a : DT) : DT := fun ρ S => match a ρ S with
  | some (b, S1) => some (!b, S1)
  | none => none
/-- a test's outcome as a value -/
def cV (a : DT) : DE := fun ρ S => match a ρ S with
  | some (b, S1) => some (.bl b, S1)
  | none => none
theorem tD_cB {P : Program} {w : World} {K : PySem.W.Frag} {ca : DE} {σ : L2.St} {H : Hp} {Q : Bool → Hp → Prop} (h : tT P w K (cB ca) σ H Q) : tB (tD P w K ca) σ H Q := by
  obtain ⟨B, ρ, S, d, S', hs, he, e, k⟩ := h
  unfold cB at e
  split at e
  · rename_i b S1 e1
    cases e
    exact ⟨B, ρ, S, _, _, hs, he, e1, fun B' v H' st hs' r => by cases r; exact ⟨_, rfl, k B' H' st hs'⟩⟩
  · cases e
theorem pdt_val (h : PD X a ca) (he : ∀ whole, isTrue a X.env whole = (do let v ← whole; standAt a.pos; holding [v] (truthy v)) := by intro _; rfl) : PDT X a (cB ca) := pt_imp (pt_val h he) fun σ H Q h => tD_cB h
theorem pdt_cmp {op : CmpOp} {r : R2} {f : D → D → Store → Option (D × Store)} (ho : OpR X (compareOp op) r) (hf : Ok2 X.prog X.w X.K r f) (hm : behindInMarks op b = false) (ha : PD X a ca) (hb : PD X b cb) : PDT X (.Compare a [op] [b] pos) (cB (cBin f ca cb)) :=
  pt_imp (pt_cmpR ho ha hb hm) fun σ H Q h => by
    have h' := tD_cB h
    exact tD_bin (R := fun x y H2 => r x y H2 fun x H' => ∃ k, x = .bl k ∧ Q k H') h' fun B S H x y dx dy d S' hs rx ry e k => hf B S H x y dx dy d S' _ hs rx ry e k
variable {ta tb : DT} {rest : List Expr}
theorem pdw_and1 (ha : PDT X a ta) : PDW X (.BoolOp .And [a] pos) ta := pw_and1 ha
theorem pdw_or1 (ha : PDT X a ta) : PDW X (.BoolOp .Or [a] pos) ta := pw_or1 ha
theorem pdw_and (ha : PDT X a ta) (hb : PDW X (.BoolOp .And (b :: rest) pos) tb) : PDW X (.BoolOp .And (a :: b :: rest) pos) (cAnd ta tb) := pw_imp (pw_and ha hb) fun σ H Q ⟨B, ρ, S, d, S', hs, he, e, k⟩ => by
  unfold cAnd at e
  split at e
  · rename_i S1 e1
    refine ⟨B, ρ, S, _, _, hs, he, e1, fun B' H' st hs' => ?_⟩
    refine iteT ?_
    exact ⟨B', ρ, S1, d, S', hs', he.mono st, e, fun B2 H2 st2 hs2 => k B2 H2 (st.trans st2) hs2⟩
  · rename_i hn
    refine ⟨B, ρ, S, _, _, hs, he, e, fun B' H' st hs' => ?_⟩
    cases d with
    | true => exact absurd e (hn _)
    | false => refine iteF ?_; exact k B' H' st hs'
theorem pdw_or (ha : PDT X a ta) (hb : PDW X (.BoolOp .Or (b :: rest) pos) tb) : PDW X (.BoolOp .Or (a :: b :: rest) pos) (cOr ta tb) := pw_imp (pw_or ha hb) fun σ H Q ⟨B, ρ, S, d, S', hs, he, e, k⟩ => by
  unfold cOr at e
  split at e
  · rename_i S1 e1
    refine ⟨B, ρ, S, _, _, hs, he, e1, fun B' H' st hs' => ?_⟩
    refine iteF ?_
    exact ⟨B', ρ, S1, d, S', hs', he.mono st, e, fun B2 H2 st2 hs2 => k B2 H2 (st.trans st2) hs2⟩
  · rename_i hn
    refine ⟨B, ρ, S, _, _, hs, he, e, fun B' H' st hs' => ?_⟩
    cases d with
    | false => exact absurd e (hn _)
    | true => refine iteT ?_; exact k B' H' st hs'
theorem pdt_not (ha : PDT X a ta) : PDT X (.UnaryOp .Not a pos) (cNot ta) := pt_imp (pt_not ha) fun σ H Q ⟨B, ρ, S, d, S', hs, he, e, k⟩ => by
  unfold cNot at e
  split at e
  · rename_i b S1 e1
    cases e
    exact ⟨B, ρ, S, _, _, hs, he, e1, fun B' H' st hs' => k B' H' st hs'⟩
  · cases e
/-- and, or, not of truth values, as values -/
def cAndV (a b : DE) : DE := fun ρ S => match a ρ S with
  | some (.bl true, S1) => b ρ S1
  | some (.bl false, S1) => some (.bl false, S1)
  | _ => none
def cOrV (a b : DE) : DE := fun ρ S => match a ρ S with
  | some (.bl false, S1) => b ρ S1
  | some (.bl true, S1) => some (.bl true, S1)
  | _ => none
def cNotV (a : DE) : DE := fun ρ S => match a ρ S with
  | some (.bl b, S1) => some (.bl (!b), S1)
  | _ => none
theorem pd_one {op : BoolOp} (h : PD X a ca) : PD X (.BoolOp op [a] pos) ca := pe_one h
theorem pd_and (ha : PD X a ca) (hb : PD X (.BoolOp .And (b :: rest) pos) cb) : PD X (.BoolOp .And (a :: b :: rest) pos) (cAndV ca cb) := pe_imp (pe_and ha hb) fun σ H Q ⟨B, ρ, S, d, S', hs, he, e, k⟩ => by
  unfold cAndV at e
  split at e
  · rename_i S1 e1
    refine ⟨B, ρ, S, _, _, hs, he, e1, fun B' v H' st hs' r => ?_⟩
    cases r
    refine ⟨_, rfl, ?_⟩
    refine iteT ?_
    exact ⟨B', ρ, S1, d, S', hs', he.mono st, e, fun B2 v2 H2 st2 hs2 r2 => k B2 v2 H2 (st.trans st2) hs2 r2⟩
  · rename_i S1 e1
    cases e
    refine ⟨B, ρ, S, _, _, hs, he, e1, fun B' v H' st hs' r => ?_⟩
    cases r
    refine ⟨_, rfl, ?_⟩
    refine iteF ?_
    exact k B' _ H' st hs' (.bl _)
  · cases e
theorem pd_or (ha : PD X a ca) (hb : PD X (.BoolOp .Or (b :: rest) pos) cb) : PD X (.BoolOp .Or (a :: b :: rest) pos) (cOrV ca cb) := pe_imp (pe_or ha hb) fun σ H Q ⟨B, ρ, S, d, S', hs, he, e, k⟩ => by
  unfold cOrV at e
  split at e
  · rename_i S1 e1
    refine ⟨B, ρ, S, _, _, hs, he, e1, fun B' v H' st hs' r => ?_⟩
    cases r
    refine ⟨_, rfl, ?_⟩
    refine iteF ?_
    exact ⟨B', ρ, S1, d, S', hs', he.mono st, e, fun B2 v2 H2 st2 hs2 r2 => k B2 v2 H2 (st.trans st2) hs2 r2⟩
  · rename_i S1 e1
    cases e
    refine ⟨B, ρ, S, _, _, hs, he, e1, fun B' v H' st hs' r => ?_⟩
    cases r
    refine ⟨_, rfl, ?_⟩
    refine iteT ?_
    exact k B' _ H' st hs' (.bl _)
  · cases e
theorem pd_not (ha : PD X a ca) : PD X (.UnaryOp .Not a pos) (cNotV ca) := pe_imp (pe_not ha) fun σ H Q ⟨B, ρ, S, d, S', hs, he, e, k⟩ => by
  unfold cNotV at e
  split at e
  · rename_i b S1 e1
    cases e
    refine ⟨B, ρ, S, _, _, hs, he, e1, fun B' v H' st hs' r => ?_⟩
    cases r
    exact ⟨_, rfl, k B' _ H' st hs' (.bl _)⟩
  · cases e
def cIf (t : DT) (a b : DE) : DE := fun ρ S => match t ρ S with
  | some (true, S1) => a ρ S1
  | some (false, S1) => b ρ S1
  | none => none
theorem pd_if (ht : PDT X c ta) (ha : PD X a ca) (hb : PD X b cb) : PD X (.IfExp c a b pos) (cIf ta ca cb) := pe_imp (pe_ifExp ht ha hb) fun σ H Q ⟨B, ρ, S, d, S', hs, he, e, k⟩ => by
  unfold cIf at e
  split at e
  · rename_i S1 e1
    refine ⟨B, ρ, S, _, _, hs, he, e1, fun B' H' st hs' => ?_⟩
    refine iteT ?_
    exact ⟨B', ρ, S1, d, S', hs', he.mono st, e, fun B2 v2 H2 st2 hs2 r2 => k B2 v2 H2 (st.trans st2) hs2 r2⟩
  · rename_i S1 e1
    refine ⟨B, ρ, S, _, _, hs, he, e1, fun B' H' st hs' => ?_⟩
    refine iteF ?_
    exact ⟨B', ρ, S1, d, S', hs', he.mono st, e, fun B2 v2 H2 st2 hs2 r2 => k B2 v2 H2 (st.trans st2) hs2 r2⟩
  · cases e
end
end DL

/-! Statements, targets, loops, defs. -/
namespace DL
open PySem PySem.Spec PyProof.Rows L2

/-! ### targets -/
abbrev DG := D → Env' → Option Env'
def gN (i : Nat) : DG := fun d ρ => some (ρ.set i (some d))
def gsNil : List D → Env' → Option Env'
  | [], ρ => some ρ
  | _, _ => none
def gsCons (g : DG) (r : List D → Env' → Option Env') : List D → Env' → Option Env'
  | d :: ds, ρ => (match g d ρ with
    | some ρ' => r ds ρ'
    | none => none)
  | [], _ => none
def gT (n : Nat) (g : List D → Env' → Option Env') : DG := fun d ρ => match d with
  | .tup ds => if ds.length = n then g ds ρ else none
  | _ => none
section
variable (P : Program) (w : World) (K : PySem.W.Frag)
/-- a target's reading; vs: the slots that it may store -/
def tG (vs : List Nat) (g : DG) : TG := fun v σ H Q => ∃ B ρ S d ρ', RS P w K B S H ∧ RE K B S H σ ρ ∧ RV K B S H v d ∧ g d ρ = some ρ' ∧
  ∀ σ', RE K B S H σ' ρ' → (∀ j, j ∉ vs → σ'[j]? = σ[j]?) → σ'.length = σ.length → Q σ' H
def tGs (vs : List Nat) (g : List D → Env' → Option Env') : TGs := fun us σ H Q => ∃ B ρ S ds ρ', RS P w K B S H ∧ RE K B S H σ ρ ∧ RVs K B S H us ds ∧ g ds ρ = some ρ' ∧
  ∀ σ', RE K B S H σ' ρ' → (∀ j, j ∉ vs → σ'[j]? = σ[j]?) → σ'.length = σ.length → Q σ' H
end
theorem pg_imp {X : Cx} {e : Expr} {t t' : TG} (h : PG X e t) (i : ∀ v σ H Q, t' v σ H Q → t v σ H Q) : PG X e t' := ⟨fun pins s σ H v u Q I r hw => h.run pins s σ H v u Q I r (i v σ H Q hw)⟩
theorem pgs_imp {X : Cx} {e : List Expr} {t t' : TGs} (h : PGs X e t) (i : ∀ v σ H Q, t' v σ H Q → t v σ H Q) : PGs X e t' := ⟨fun pins s σ H v u Q I r hw => h.run pins s σ H v u Q I r (i v σ H Q hw)⟩
abbrev PDG (X : Cx) (e : Expr) (vs : List Nat) (g : DG) : Prop := PG X e (tG X.prog X.w X.K vs g)
abbrev PDGs (X : Cx) (e : List Expr) (vs : List Nat) (g : List D → Env' → Option Env') : Prop := PGs X e (tGs X.prog X.w X.K vs g)
theorem RE.set {K : PySem.W.Frag} {B : Wd} {S : Store} {H : Hp} {σ : L2.St} {ρ : Env'} {v : V} {d : D} (r : RE K B S H σ ρ) (q : RV K B S H v d) (i : Nat) : RE K B S H (σ.set i (some v)) (ρ.set i (some d)) := by
  refine ⟨by simp [r.len], fun j u e => ?_⟩
  by_cases hj : j = i
  · subst hj
    have hl : j < ρ.length := by
      have := (List.getElem?_eq_some_iff.mp e).1
      simpa using this
    rw [List.getElem?_set_self hl] at e
    cases e
    exact ⟨v, List.getElem?_set_self (by rw [r.len]; exact hl), q⟩
  · rw [List.getElem?_set_ne (Ne.symm hj)] at e ⊢
    exact r.at_ j u e
theorem RV.tupI {K : PySem.W.Frag} {B : Wd} {S : Store} {H : Hp} {v : V} {ds : List D} (h : RV K B S H v (.tup ds)) : ∃ a xs, v = .ref a ∧ SqT K H a xs ∧ RVs K B S H xs ds := by
  cases h with
  | tup e n r => exact ⟨_, _, rfl, SqT.of e, r⟩
  | tupK e r => exact ⟨_, _, rfl, e H, r⟩
section
variable {X : Cx} {e : Expr} {es : List Expr} {pos : Pos}
theorem pdg_name {i : Nat} {x : Str} (h : PG X (.Name x pos) (gName i)) : PDG X (.Name x pos) [i] (gN i) := pg_imp h fun v σ H Q ⟨B, ρ, S, d, ρ', hs, he, r, eg, k⟩ => by
  cases eg
  exact k _ (he.set r i) (fun j hj => List.getElem?_set_ne (by simp at hj; exact fun z => hj z.symm)) (by simp)
theorem pdgs_nil : PDGs X [] [] gsNil := pgs_imp pgs_nil fun us σ H Q ⟨B, ρ, S, ds, ρ', hs, he, r, eg, k⟩ => by
  cases r with
  | nil =>
    cases eg
    exact ⟨rfl, k σ he (fun _ _ => rfl) rfl⟩
  | cons _ _ => cases eg
theorem pdgs_cons {vs ws : List Nat} {g : DG} {gr : List D → Env' → Option Env'} (h1 : PDG X e vs g) (h2 : PDGs X es ws gr) (hs : (assignEach (e :: es) X.env).map (·.2) = assign e X.env :: (assignEach es X.env).map (·.2) := by rfl) : PDGs X (e :: es) (vs ++ ws) (gsCons g gr) :=
  pgs_imp (pgs_cons h1 h2 hs) fun us σ H Q ⟨B, ρ, S, ds, ρ', hs, he, r, eg, k⟩ => by
    cases r with
    | nil => cases eg
    | cons r1 r2 =>
      unfold gsCons at eg
      simp only at eg
      split at eg
      · rename_i ρ1 e1
        refine ⟨_, _, rfl, B, ρ, S, _, ρ1, hs, he, r1, e1, fun σ1 he1 o1 l1 => ?_⟩
        refine ⟨B, ρ1, S, _, ρ', hs, he1, r2, eg, fun σ2 he2 o2 l2 => k σ2 he2 (fun j hj => ?_) (l2.trans l1)⟩
        simp only [List.mem_append, not_or] at hj
        rw [o2 j hj.2, o1 j hj.1]
      · cases eg
theorem pdg_tup {vs : List Nat} {k n : Nat} {g : List D → Env' → Option Env'} (hc : X.calm = true) (h : PDGs X es vs g) (hn : (assignEach es X.env).length = n := by rfl) (hst : (assignEach es X.env).findIdx? (·.1) = none := by rfl) : PDG X (.Tuple es k pos) vs (gT n g) :=
  pg_imp (pg_tup hc h hn hst) fun v σ H Q ⟨B, ρ, S, d, ρ', hs, he, r, eg, k⟩ => by
    unfold gT at eg
    split at eg
    · split at eg
      · rename_i hl
        obtain ⟨a, xs, rfl, hq, r2⟩ := r.tupI
        exact ⟨a, xs, rfl, hq, r2.length.trans hl, B, ρ, S, _, ρ', hs, he, r2, eg, k⟩
      · cases eg
    · cases eg
end

/-! ### statements -/
def sNext : DS := fun ρ S => some (.nx ρ S)
def sSeq (a b : DS) : DS := fun ρ S => match a ρ S with
  | some (.nx ρ' S') => b ρ' S'
  | r => r
def sSet (g : DG) (a : DE) : DS := fun ρ S => match a ρ S with
  | some (d, S') => (match g d ρ with
    | some ρ' => some (.nx ρ' S')
    | none => none)
  | none => none
def sExpr (a : DE) : DS := fun ρ S => match a ρ S with
  | some (_, S') => some (.nx ρ S')
  | none => none
def sRet (a : DE) : DS := fun ρ S => match a ρ S with
  | some (d, S') => some (.rt d S')
  | none => none
def sIf (t : DT) (a b : DS) : DS := fun ρ S => match t ρ S with
  | some (true, S') => a ρ S'
  | some (false, S') => b ρ S'
  | none => none
def sBreak : DS := fun ρ S => some (.bk ρ S)
def sCont : DS := fun ρ S => some (.ct ρ S)
def sNever : DS := fun _ _ => none
def sPar (i j : Nat) (a : DA) : DS := fun ρ S => match a ρ S with
  | some ([x, y], S') => some (.nx ((ρ.set i (some x)).set j (some y)) S')
  | _ => none
/-- name op= e -/
def sAug (i : Nat) (f : D → D → Store → Option (D × Store)) (a : DE) : DS := fun ρ S => match ρ[i]? with
  | some (some x) => (match a ρ S with
    | some (y, S1) => (match f x y S1 with
      | some (z, S2) => some (.nx (ρ.set i (some z)) S2)
      | none => none)
    | none => none)
  | _ => none
section
variable {P : Program} {w : World} {K : PySem.W.Frag}
theorem endF.weak {E : Ends} {B B1 : Wd} {S S1 : Store} {H H1 : Hp} {f : Fl} (st : Stp B S H B1 S1 H1) (h : endF P w K E B S H f) : endF P w K E B1 S1 H1 f := by
  cases f with
  | nx ρ S' => exact fun B' σ' H' s2 hs he => h B' σ' H' (st.trans s2) hs he
  | rt d S' => exact fun B' v H' s2 hs r => h B' v H' (st.trans s2) hs r
  | bk ρ S' => exact fun B' σ' H' s2 hs he => h B' σ' H' (st.trans s2) hs he
  | ct ρ S' => exact fun B' σ' H' s2 hs he => h B' σ' H' (st.trans s2) hs he
end
section
variable {X : Cx} {st : Stmt} {rest : List Stmt} {c c' : DS} {e : Expr} {ce : DE} {pos : Pos}
theorem pdss_nil : PDSs X [] sNext := pss_imp pss_nil fun E σ H ⟨B, ρ, S, f, hs, he, ef, k⟩ => by
  cases ef
  exact k B σ H (Stp.refl ..) hs he
theorem pds_pass : PDS X (.Pass pos) sNext := ps_imp ps_pass fun E σ H ⟨B, ρ, S, f, hs, he, ef, k⟩ => by
  cases ef
  exact k B σ H (Stp.refl ..) hs he
theorem pds_break : PDS X (.Break pos) sBreak := ps_imp ps_break fun E σ H ⟨B, ρ, S, f, hs, he, ef, k⟩ => by
  cases ef
  exact k B σ H (Stp.refl ..) hs he
theorem pds_cont : PDS X (.Continue pos) sCont := ps_imp ps_continue fun E σ H ⟨B, ρ, S, f, hs, he, ef, k⟩ => by
  cases ef
  exact k B σ H (Stp.refl ..) hs he
theorem pds_never : PDS X st sNever := ps_imp ps_never fun E σ H ⟨B, ρ, S, f, hs, he, ef, k⟩ => by cases ef
theorem pdss_one (h : PDS X st c) : PDSs X [st] c := pss_one h
theorem pdss_cons (h1 : PDS X st c) (h2 : PDSs X rest c') : PDSs X (st :: rest) (sSeq c c') := pss_imp (pss_cons h1 h2) fun E σ H ⟨B, ρ, S, f, hs, he, ef, k⟩ => by
  unfold sSeq at ef
  split at ef
  · rename_i ρ1 S1 e1
    exact ⟨B, ρ, S, _, hs, he, e1, fun B' σ' H' st hs' he' => ⟨B', ρ1, S1, f, hs', he', ef, k.weak st⟩⟩
  · rename_i hn
    refine ⟨B, ρ, S, f, hs, he, ef, ?_⟩
    cases f with
    | nx ρ' S' => exact absurd ef (hn _ _)
    | _ => exact k
theorem pds_ret (h : PD X e ce) : PDS X (.Return (some e) pos) (sRet ce) := ps_imp (ps_ret h) fun E σ H ⟨B, ρ, S, f, hs, he, ef, k⟩ => by
  unfold sRet at ef
  split at ef
  · rename_i d S1 e1
    cases ef
    exact ⟨B, ρ, S, d, S1, hs, he, e1, fun B' v H' st hs' r => k B' v H' st hs' r⟩
  · cases ef
def sRetN : DS := fun _ S => some (.rt .non S)
theorem pds_retN : PDS X (.Return none pos) sRetN := ps_imp ps_retN fun E σ H ⟨B, ρ, S, f, hs, he, ef, k⟩ => by
  cases ef
  exact k B .non H (Stp.refl ..) hs .non
theorem pds_expr (h : PD X e ce) (hs : swapsWith e none pos.line X.env = pure false := by rfl) : PDS X (.Expr e pos) (sExpr ce) := ps_imp (ps_expr h hs) fun E σ H ⟨B, ρ, S, f, hs, he, ef, k⟩ => by
  unfold sExpr at ef
  split at ef
  · rename_i d S1 e1
    cases ef
    exact ⟨B, ρ, S, d, S1, hs, he, e1, fun B' v H' st hs' r => k B' σ H' st hs' (he.mono st)⟩
  · cases ef
theorem pds_doc {x : Str} {j : Nat} {pos' : Pos} : PDS X (.Expr (.Constant (.str x) j pos) pos') sNext := ps_imp ps_doc fun E σ H ⟨B, ρ, S, f, hs, he, ef, k⟩ => by
  cases ef
  exact k B σ H (Stp.refl ..) hs he
theorem pds_if {t : Expr} {a b : List Stmt} {ct : DT} (ht : PDT X t ct) (ha : PDSs X a c) (hb : PDSs X b c') : PDS X (.If t a b pos) (sIf ct c c') := ps_imp (ps_if ht ha hb) fun E σ H ⟨B, ρ, S, f, hs, he, ef, k⟩ => by
  unfold sIf at ef
  split at ef
  · rename_i S1 e1
    exact ⟨B, ρ, S, _, S1, hs, he, e1, fun B' H' st hs' => iteT ⟨B', ρ, S1, f, hs', he.mono st, ef, k.weak st⟩⟩
  · rename_i S1 e1
    exact ⟨B, ρ, S, _, S1, hs, he, e1, fun B' H' st hs' => iteF ⟨B', ρ, S1, f, hs', he.mono st, ef, k.weak st⟩⟩
  · cases ef
/-- a value goes into a target -/
theorem asg_core {P : Program} {w : World} {K : PySem.W.Frag} {vs : List Nat} {g : DG} {E : Ends} {σ : L2.St} {H : Hp} (h : tS P w K (sSet g ce) E σ H) : tAsg (tD P w K ce) (tG P w K vs g) E σ H := by
  obtain ⟨B, ρ, S, f, hs, he, ef, k⟩ := h
  unfold sSet at ef
  split at ef
  · rename_i d S1 e1
    split at ef
    · rename_i ρ' eg
      cases ef
      exact ⟨B, ρ, S, d, S1, hs, he, e1, fun B' v H' st hs' r => ⟨B', ρ, S1, d, ρ', hs', he.mono st, r, eg, fun σ' he' _ _ => k B' σ' H' st hs' he'⟩⟩
    · cases ef
  · cases ef
theorem pds_asg {tg : Expr} {vs : List Nat} {g : DG} (he : PD X e ce) (hg : PDG X tg vs g) (hs : swapsWithSole [tg] e pos.line X.env = pure false := by rfl) (hw : swappedStores [tg] e X.env = pure none := by rfl)
    (h1 : (assignEach [tg] X.env).map (·.2) = [assign tg X.env] := by rfl) : PDS X (.Assign [tg] e pos) (sSet g ce) := ps_imp (ps_asg he hg hs hw h1) fun E σ H h => asg_core h
/-- name = value: h is ps_set's -/
theorem pds_set {i : Nat} {x : Str} {pos' : Pos} (h : PS X (.Assign [.Name x pos'] e pos) (tAsg (tD X.prog X.w X.K ce) (gName i))) : PDS X (.Assign [.Name x pos'] e pos) (sSet (gN i) ce) := ps_imp h fun E σ H ⟨B, ρ, S, f, hs, he, ef, k⟩ => by
  unfold sSet at ef
  split at ef
  · rename_i d S1 e1
    cases ef
    exact ⟨B, ρ, S, d, S1, hs, he, e1, fun B' v H' st hs' r => k B' _ H' st hs' ((he.mono st).set r i)⟩
  · cases ef
theorem pds_par {i j : Nat} {ta : DA} {s : Stmt} (h : PS X s (tPar i j (tAs X.prog X.w X.K ta))) : PDS X s (sPar i j ta) := ps_imp h fun E σ H ⟨B, ρ, S, f, hs, he, ef, k⟩ => by
  unfold sPar at ef
  split at ef
  · rename_i x y S1 e1
    cases ef
    refine ⟨B, ρ, S, _, S1, hs, he, e1, fun B' vs H' st hs' r => ?_⟩
    cases r with
    | cons r1 r2 =>
      cases r2 with
      | cons r2 r3 =>
        cases r3
        exact ⟨_, _, rfl, k B' _ H' st hs' (((he.mono st).set r1 i).set r2 j)⟩
  · cases ef
theorem pds_aug {i : Nat} {x : Str} {op : Operator} {pos' : Pos} {r : R2} {f : D → D → Store → Option (D × Store)} (ho : OpR X (inplaceOp op) r) (hf : Ok2 X.prog X.w X.K r f) (h : PIp X op r → PS X (.AugAssign (.Name x pos') op e pos) (tAug i (tD X.prog X.w X.K ce) r)) : PDS X (.AugAssign (.Name x pos') op e pos) (sAug i f ce) :=
  ps_imp (h fun pins s σ H x y v u Q I rx ry q => ho pins s σ H x y v u Q I rx ry q) fun E σ H ⟨B, ρ, S, fl, hs, he, ef, k⟩ => by
    unfold sAug at ef
    split at ef
    · rename_i dx hd
      obtain ⟨v, hv, rv⟩ := he.at_ i _ hd
      split at ef
      · rename_i y S1 e1
        split at ef
        · rename_i z S2 e2
          cases ef
          exact ⟨v, hv, B, ρ, S, y, S1, hs, he, e1, fun B' v' H' st hs' r => hf B' S1 H' v v' dx y z S2 _ hs' (RV.mono st _ _ rv) r e2 fun B2 v2 H2 st2 hs2 r2 => k B2 _ H2 (st.trans st2) hs2 ((he.mono (st.trans st2)).set r2 i)⟩
        · cases ef
      · cases ef
    · cases ef
end

/-! ### while -/
def whileN (t : DT) (b : DS) : Nat → DS
  | 0 => fun _ _ => none
  | n + 1 => fun ρ S => match t ρ S with
    | none => none
    | some (false, S') => some (.nx ρ S')
    | some (true, S') => (match b ρ S' with
      | some (.nx ρ' S2) => whileN t b n ρ' S2
      | some (.ct ρ' S2) => whileN t b n ρ' S2
      | some (.bk ρ' S2) => some (.nx ρ' S2)
      | r => r)
theorem whileN_mono {t : DT} {b : DS} : ∀ {n m : Nat} {ρ : Env'} {S : Store} {f : Fl}, whileN t b n ρ S = some f → n ≤ m → whileN t b m ρ S = some f
  | 0, _, _, _, _, h, _ => by cases h
  | n + 1, 0, _, _, _, _, h => by omega
  | n + 1, m + 1, ρ, S, f, h, hl => by
    unfold whileN at h ⊢
    cases e : t ρ S with
    | none => rw [e] at h; cases h
    | some p =>
      obtain ⟨c, S'⟩ := p
      rw [e] at h
      cases c with
      | false => exact h
      | true =>
        simp only at h ⊢
        cases e2 : b ρ S' with
        | none => rw [e2] at h; cases h
        | some q =>
          rw [e2] at h
          cases q with
          | nx ρ' S2 => exact whileN_mono h (by omega)
          | ct ρ' S2 => exact whileN_mono h (by omega)
          | bk ρ' S2 => exact h
          | rt d S2 => exact h
open Classical in
noncomputable def sWhile (t : DT) (b : DS) : DS := fun ρ S => if h : ∃ f n, whileN t b n ρ S = some f then some (Classical.choose h) else none
theorem sWhile_of {t : DT} {b : DS} {ρ : Env'} {S : Store} {f : Fl} {n : Nat} (h : whileN t b n ρ S = some f) : sWhile t b ρ S = some f := by
  have hx : ∃ f n, whileN t b n ρ S = some f := ⟨f, n, h⟩
  unfold sWhile
  rw [dif_pos hx]
  obtain ⟨m, hm⟩ := Classical.choose_spec hx
  have a := whileN_mono h (Nat.le_max_left n m)
  have b := whileN_mono hm (Nat.le_max_right n m)
  rw [a] at b
  exact b.symm
theorem of_sWhile {t : DT} {b : DS} {ρ : Env'} {S : Store} {f : Fl} (h : sWhile t b ρ S = some f) : ∃ n, whileN t b n ρ S = some f := by
  unfold sWhile at h
  split at h
  · rename_i hx
    cases h
    exact Classical.choose_spec hx
  · cases h
theorem pds_while {X : Cx} {t : Expr} {body : List Stmt} {pos : Pos} {ct : DT} {cb : DS} (hp : PassesOwn (model X.prog X.w) X.A X.env X.xe) (ht : PDT X t ct) (hb : PDSs X body cb) : PDS X (.While t body [] pos) (sWhile ct cb) :=
  ps_imp (ps_while hp ht hb) fun E σ H ⟨B, ρ, S, f, hs, he, ef, k⟩ => by
    obtain ⟨n, ef⟩ := of_sWhile ef
    refine ⟨fun m σ' H' => ∃ B' ρ' S' f', RS X.prog X.w X.K B' S' H' ∧ RE X.K B' S' H' σ' ρ' ∧ whileN ct cb m ρ' S' = some f' ∧ endF X.prog X.w X.K ⟨E.nx, E.rt, E.bk, E.ct⟩ B' S' H' f', ⟨n, B, ρ, S, f, hs, he, ef, k⟩, ?_⟩
    rintro m σ1 H1 ⟨B1, ρ1, S1, f1, hs1, he1, e1, k1⟩
    cases m with
    | zero => cases e1
    | succ m =>
      unfold whileN at e1
      split at e1
      · cases e1
      · rename_i S2 e2
        cases e1
        exact ⟨B1, ρ1, S1, _, _, hs1, he1, e2, fun B' H' st hs' => iteF (k1 B' σ1 H' st hs' (he1.mono st))⟩
      · rename_i S2 e2
        refine ⟨B1, ρ1, S1, _, _, hs1, he1, e2, fun B2 H2 st2 hs2 => iteT ⟨fun σ' H' => ∃ B' ρ' S' f', RS X.prog X.w X.K B' S' H' ∧ RE X.K B' S' H' σ' ρ' ∧ whileN ct cb m ρ' S' = some f' ∧ endF X.prog X.w X.K ⟨E.nx, E.rt, E.bk, E.ct⟩ B' S' H' f', fun σ' H' q => ⟨m, Nat.lt_succ_self m, q⟩, ?_⟩⟩
        have k2 := k1.weak st2
        split at e1
        · rename_i ρ3 S3 e3
          exact ⟨B2, ρ1, S2, _, hs2, he1.mono st2, e3, fun B3 σ3 H3 st3 hs3 he3 => ⟨B3, ρ3, S3, f1, hs3, he3, e1, k2.weak st3⟩⟩
        · rename_i ρ3 S3 e3
          exact ⟨B2, ρ1, S2, _, hs2, he1.mono st2, e3, fun B3 σ3 H3 st3 hs3 he3 => ⟨B3, ρ3, S3, f1, hs3, he3, e1, k2.weak st3⟩⟩
        · rename_i ρ3 S3 e3
          cases e1
          exact ⟨B2, ρ1, S2, _, hs2, he1.mono st2, e3, fun B3 σ3 H3 st3 hs3 he3 => k2 B3 σ3 H3 st3 hs3 he3⟩
        · rename_i h1 h2 h3
          refine ⟨B2, ρ1, S2, f1, hs2, he1.mono st2, e1, ?_⟩
          cases f1 with
          | nx ρ' S' => exact absurd e1 (h1 _ _)
          | ct ρ' S' => exact absurd e1 (h2 _ _)
          | bk ρ' S' => exact absurd e1 (h3 _ _)
          | rt d S' => exact k2

/-! ### for -/
/-- what is walked: its items; if they are a cell's list, the cell -/
abbrev Itm := List D × Option Nat
abbrev DI := Env' → Store → Option (Itm × Store)
def liveOk (l : Option Nat) (xs : List D) (S : Store) : Prop := match l with
  | none => True
  | some k => S[k]? = some (.lst xs)
/-- J walks the items from any later state on -/
def Wlk (P : Program) (w : World) (K : PySem.W.Frag) (B : Wd) (S : Store) (H : Hp) (J : It) (m : Itm) : Prop :=
  ∀ B' S' H', St0 B S H B' S' H' → RS P w K B' S' H' → liveOk m.2 m.1 S' → ∀ i,
    (∀ d, m.1[i]? = some d → J.go i H' ∧ ∀ x H'', J.yld i H' x H'' → Stp B' S' H' B' S' H'' ∧ RS P w K B' S' H'' ∧ RV K B' S' H'' x d) ∧ (i = m.1.length → J.stop i H')
def tI (P : Program) (w : World) (K : PySem.W.Frag) (c : DI) : TI := fun σ H R => ∃ B ρ S m S', RS P w K B S H ∧ RE K B S H σ ρ ∧ c ρ S = some (m, S') ∧
  ∀ B' J H', Stp B S H B' S' H' → RS P w K B' S' H' → Wlk P w K B' S' H' J m → R J H'
theorem pi_imp {X : Cx} {tg e : Expr} {t t' : TI} (h : PI X tg e t) (i : ∀ σ H Q, t' σ H Q → t σ H Q) : PI X tg e t' := ⟨fun pins s σ H Q I hw => h.run pins s σ H Q I (i σ H Q hw)⟩
abbrev PDI (X : Cx) (tg e : Expr) (c : DI) : Prop := PI X tg e (tI X.prog X.w X.K c)
/-- whether a walked cell still holds the list -/
def liveB (l : Option Nat) (xs : List D) (S : Store) (f : Option Fl) : Option Fl := match l with
  | none => f
  | some k => (match S[k]? with
    | some (.lst ys) => if ys.length = xs.length then f else none
    | _ => none)
open Classical in
/-- the turns; xs: all items, ys: those that are left -/
noncomputable def forL (g : DG) (b : DS) (l : Option Nat) (xs : List D) : List D → DS
  | [] => fun ρ S => if liveOk l xs S then some (.nx ρ S) else none
  | y :: ys => fun ρ S => if liveOk l xs S then (match g y ρ with
    | none => none
    | some ρ1 => (match b ρ1 S with
      | some (.nx ρ' S') => forL g b l xs ys ρ' S'
      | some (.ct ρ' S') => forL g b l xs ys ρ' S'
      | some (.bk ρ' S') => some (.nx ρ' S')
      | r => r)) else none
noncomputable def sFor (c : DI) (g : DG) (b : DS) : DS := fun ρ S => match c ρ S with
  | some (m, S') => forL g b m.2 m.1 m.1 ρ S'
  | none => none
theorem pds_for {X : Cx} {tg iter : Expr} {body : List Stmt} {pos : Pos} {ci : DI} {vs : List Nat} {g : DG} {cb : DS} (hp : PassesOwn (model X.prog X.w) X.A X.env X.xe) (hc : X.calm = true) (hi : PDI X tg iter ci) (hg : PDG X tg vs g) (hb : PDSs X body cb)
    (hs : ∀ x, foldedSetIterable iter X.env x = pure x := by intro _; rfl) : PDS X (.For tg iter body [] pos) (sFor ci g cb) :=
  ps_imp (ps_for hp hc hi hg hb hs) fun E σ H ⟨B, ρ, S, f, hs, he, ef, k⟩ => by
    unfold sFor at ef
    split at ef
    · rename_i m S1 e1
      refine ⟨B, ρ, S, m, S1, hs, he, e1, fun B1 J H1 st1 hs1 W => ?_⟩
      refine ⟨fun i n σ' H' => n = m.1.length - i ∧ i ≤ m.1.length ∧ ∃ B' ρ' S' f', Stp B1 S1 H1 B' S' H' ∧ RS X.prog X.w X.K B' S' H' ∧ RE X.K B' S' H' σ' ρ' ∧ forL g cb m.2 m.1 (m.1.drop i) ρ' S' = some f' ∧ endF X.prog X.w X.K ⟨E.nx, E.rt, E.bk, E.ct⟩ B' S' H' f',
        ⟨m.1.length, by simp, Nat.zero_le _, B1, ρ, S1, f, Stp.refl .., hs1, he.mono st1, by simpa using ef, k.weak st1⟩, ?_⟩
      rintro i n σ2 H2 ⟨rfl, hl, B2, ρ2, S2, f2, st2, hs2, he2, e2, k2⟩
      by_cases hlt : i < m.1.length
      · have hd : m.1.drop i = m.1[i] :: m.1.drop (i + 1) := (List.drop_eq_getElem_cons hlt)
        have hx : m.1[i]? = some m.1[i] := by simp [hlt]
        rw [hd] at e2
        unfold forL at e2
        split at e2
        · rename_i lv
          obtain ⟨w1, _⟩ := W B2 S2 H2 st2.toSt0 hs2 lv i
          obtain ⟨w2, w3⟩ := w1 _ hx
          refine .inr ⟨w2, fun σ' H' => i + 1 ≤ m.1.length ∧ ∃ B' ρ' S' f', Stp B1 S1 H1 B' S' H' ∧ RS X.prog X.w X.K B' S' H' ∧ RE X.K B' S' H' σ' ρ' ∧ forL g cb m.2 m.1 (m.1.drop (i + 1)) ρ' S' = some f' ∧ endF X.prog X.w X.K ⟨E.nx, E.rt, E.bk, E.ct⟩ B' S' H' f', fun σ' H' q => ⟨m.1.length - (i + 1), by omega, rfl, q⟩, fun x H3 y => ?_⟩
          obtain ⟨st3, hs3, r3⟩ := w3 x H3 y
          have he3 := he2.mono st3
          have k3 := k2.weak st3
          have st13 := st2.trans st3
          split at e2
          · cases e2
          · rename_i ρ1 eg
            refine ⟨B2, ρ2, S2, _, ρ1, hs3, he3, r3, eg, fun σ4 he4 _ _ => ?_⟩
            split at e2
            · rename_i ρ5 S5 e5
              exact ⟨B2, ρ1, S2, _, hs3, he4, e5, fun B6 σ6 H6 st6 hs6 he6 => ⟨hlt, B6, ρ5, S5, f2, st13.trans st6, hs6, he6, e2, k3.weak st6⟩⟩
            · rename_i ρ5 S5 e5
              exact ⟨B2, ρ1, S2, _, hs3, he4, e5, fun B6 σ6 H6 st6 hs6 he6 => ⟨hlt, B6, ρ5, S5, f2, st13.trans st6, hs6, he6, e2, k3.weak st6⟩⟩
            · rename_i ρ5 S5 e5
              cases e2
              exact ⟨B2, ρ1, S2, _, hs3, he4, e5, fun B6 σ6 H6 st6 hs6 he6 => k3 B6 σ6 H6 st6 hs6 he6⟩
            · rename_i h1 h2 h3
              refine ⟨B2, ρ1, S2, f2, hs3, he4, e2, ?_⟩
              cases f2 with
              | nx ρ' S' => exact absurd e2 (h1 _ _)
              | ct ρ' S' => exact absurd e2 (h2 _ _)
              | bk ρ' S' => exact absurd e2 (h3 _ _)
              | rt d S' => exact k3
        · cases e2
      · have hi : i = m.1.length := by omega
        subst hi
        rw [List.drop_length] at e2
        unfold forL at e2
        split at e2
        · rename_i lv
          cases e2
          exact .inl ⟨(W B2 S2 H2 st2.toSt0 hs2 lv _).2 rfl, k2 B2 σ2 H2 (Stp.refl ..) hs2 he2⟩
        · cases e2
    · cases ef

/-! ### defs -/
-- what leaves a def: data without the def's own cells
mutual
def below (n : Nat) : D → Bool
  | .ref k => decide (k < n)
  | .tup ds => belows n ds
  | .lst ds => belows n ds
  | .scr ds => belows n ds
  | .non => true
  | .bl _ => true
  | .int _ => true
  | .str _ => true
def belows (n : Nat) : List D → Bool
  | [] => true
  | d :: ds => below n d && belows n ds
end
def cellBelow (n : Nat) : Cell → Prop
  | .dead => True
  | .lst ds => belows n ds = true
  | .dK _ kvs => ∀ p ∈ kvs, below n p.2 = true
  | .dN _ kvs => ∀ p ∈ kvs, below n p.1 = true ∧ below n p.2 = true
open Classical in
noncomputable def leaveV (S S' : Store) (d : D) : Option (D × Store) :=
  if ∀ k, k < S.length → S'[k]? = S[k]? ∨ ∃ c, S'[k]? = some c ∧ cellBelow S.length c then
    (if below S.length d = true then some (d, S'.take S.length) else match d with
      | .ref k => (match S'[k]? with
        | some c => if c ≠ Cell.dead ∧ cellBelow S.length c then some (.ref S.length, S'.take S.length ++ [c]) else none
        | none => none)
      | _ => none)
  else none
noncomputable def leave (S : Store) (r : Option Fl) : Option (D × Store) := match r with
  | some (.nx _ S') => leaveV S S' .non
  | some (.rt d S') => leaveV S S' d
  | _ => none
section
variable {P : Program} {w : World} {K : PySem.W.Frag} {B B' : Wd} {S S' : Store} {H H' : Hp}
mutual
theorem RV.isBelow : ∀ (d : D) (v : V), RV K B S H v d → below S.length d = true
  | .non, _, _ => rfl
  | .bl _, _, _ => rfl
  | .int _, _, _ => rfl
  | .str _, _, _ => rfl
  | .tup ds, _, h => by
    cases h with
    | tup e n r => exact RVs.areBelow ds _ r
    | tupK e r => exact RVs.areBelow ds _ r
  | .lst ds, _, h => by cases h with | lst e n r => exact RVs.areBelow ds _ r
  | .scr ds, _, h => by
    cases h with
    | lstF e n r => exact RVs.areBelow ds _ r
    | lstK e r => exact RVs.areBelow ds _ r
  | .ref k, _, h => by cases h with | ref lt => exact decide_eq_true lt
theorem RVs.areBelow : ∀ (ds : List D) (vs : List V), RVs K B S H vs ds → belows S.length ds = true
  | [], _, _ => rfl
  | d :: ds, _, h => by
    cases h with
    | cons h1 h2 =>
      show (DL.below S.length d && DL.belows S.length ds) = true
      rw [RV.isBelow d _ h1, RVs.areBelow ds _ h2]
      rfl
end
mutual
theorem RV.cut {n : Nat} (hb : ∀ k, k < n → B' k = B k) (hl : n ≤ S'.length) (ho : ∀ a, Owned B' S' a → Owned B S a) : ∀ (d : D) (v : V), RV K B S H v d → below n d = true → RV K B' S' H v d
  | .non, _, h, _ => by cases h; exact .non
  | .bl b, _, h, _ => by cases h; exact .bl b
  | .int i, _, h, _ => by cases h; exact .int i
  | .str x, _, h, _ => by cases h; exact .str x
  | .tup ds, _, h, z => by
    cases h with
    | tup e m r => exact .tup e (fun w => m (ho _ w)) (RVs.cut hb hl ho ds _ r z)
    | tupK e r => exact .tupK e (RVs.cut hb hl ho ds _ r z)
  | .lst ds, _, h, z => by cases h with | lst e m r => exact .lst e (fun w => m (ho _ w)) (RVs.cut hb hl ho ds _ r z)
  | .scr ds, _, h, z => by
    cases h with
    | lstF e m r => exact .lstF e (fun w => m (ho _ w)) (RVs.cut hb hl ho ds _ r z)
    | lstK e r => exact .lstK e (RVs.cut hb hl ho ds _ r z)
  | .ref k, _, h, z => by
    cases h with
    | ref lt =>
      have lt2 : k < n := of_decide_eq_true z
      rw [← hb k lt2]
      exact .ref (Nat.lt_of_lt_of_le lt2 hl)
theorem RVs.cut {n : Nat} (hb : ∀ k, k < n → B' k = B k) (hl : n ≤ S'.length) (ho : ∀ a, Owned B' S' a → Owned B S a) : ∀ (ds : List D) (vs : List V), RVs K B S H vs ds → belows n ds = true → RVs K B' S' H vs ds
  | [], _, h, _ => by cases h; exact .nil
  | d :: ds, _, h, z => by
    cases h with
    | cons h1 h2 =>
      have z' : (DL.below n d && DL.belows n ds) = true := z
      rw [Bool.and_eq_true] at z'
      exact .cons (RV.cut hb hl ho d _ h1 z'.1) (RVs.cut hb hl ho ds _ h2 z'.2)
end
theorem CRl.cut {n : Nat} {a : Addr} {c : Cell} (hb : ∀ k, k < n → B' k = B k) (hl : n ≤ S'.length) (ho : ∀ a, Owned B' S' a → Owned B S a) (r : CRl P w K B S H a c) (z : cellBelow n c) : CRl P w K B' S' H a c := by
  cases c with
  | dead => trivial
  | lst ds =>
    obtain ⟨xs, h, q⟩ := r
    exact ⟨xs, h, RVs.cut hb hl ho _ _ q z⟩
  | dK lk kvs =>
    obtain ⟨kxs, q, h⟩ := r
    refine ⟨kxs, ?_, h⟩
    have z' : ∀ p ∈ kvs, DL.below n p.2 = true := z
    clear z h
    unfold KRel at q ⊢
    induction q with
    | nil => exact .nil
    | cons r t ih => exact .cons ⟨r.1, RV.cut hb hl ho _ _ r.2 (z' _ (by simp))⟩ (ih fun p hp => z' p (by simp [hp]))
  | dN lk kvs =>
    obtain ⟨o, xs, h, y, l, m, q⟩ := r
    refine ⟨o, xs, h, y, l, m, ?_⟩
    have z' : ∀ p ∈ kvs, DL.below n p.1 = true ∧ DL.below n p.2 = true := z
    clear z h l m
    unfold NRel at q ⊢
    induction q with
    | nil => exact .nil
    | cons r t ih => exact .cons ⟨r.1, r.2.1, RV.cut hb hl ho _ _ r.2.2.1 (z' _ (by simp)).1, let ⟨v, e, u⟩ := r.2.2.2; ⟨v, e, RV.cut hb hl ho _ _ u (z' _ (by simp)).2⟩⟩ (ih fun p hp => z' p (by simp [hp]))
theorem CRl.below {a : Addr} {c : Cell} (r : CRl P w K B S H a c) : cellBelow S.length c := by
  cases c with
  | dead => trivial
  | lst ds =>
    obtain ⟨xs, h, q⟩ := r
    exact RVs.areBelow _ _ q
  | dK lk kvs =>
    obtain ⟨kxs, q, h⟩ := r
    clear h
    show ∀ p ∈ kvs, DL.below S.length p.2 = true
    unfold KRel at q
    induction q with
    | nil => intro p hp; cases hp
    | cons r t ih =>
      intro p hp
      rcases List.mem_cons.mp hp with e | hp
      · rw [e]; exact RV.isBelow _ _ r.2
      · exact ih p hp
  | dN lk kvs =>
    obtain ⟨o, xs, h, y, l, m, q⟩ := r
    clear h l m
    show ∀ p ∈ kvs, DL.below S.length p.1 = true ∧ DL.below S.length p.2 = true
    unfold NRel at q
    induction q with
    | nil => intro p hp; cases hp
    | cons r t ih =>
      intro p hp
      rcases List.mem_cons.mp hp with e | hp
      · rw [e]
        obtain ⟨v, _, u⟩ := r.2.2.2
        exact ⟨RV.isBelow _ _ r.2.2.1, RV.isBelow _ _ u⟩
      · exact ih p hp
theorem leave_ok {v : V} {d d' : D} {S'' : Store} (hs : RS P w K B S H) (st : Stp B S H B' S' H') (hs' : RS P w K B' S' H') (r : RV K B' S' H' v d) (e : leaveV S S' d = some (d', S'')) :
    ∃ B'', Stp B S H B'' S'' H' ∧ RS P w K B'' S'' H' ∧ RV K B'' S'' H' v d' := by
  unfold leaveV at e
  split at e
  · rename_i hc
    have cb : ∀ k c, k < S.length → S'[k]? = some c → cellBelow S.length c := fun k c hk hc' => by
      rcases hc k hk with q | ⟨c2, q, z⟩
      · rw [hc'] at q
        exact (hs.cel k c q.symm).below
      · rw [hc'] at q; cases q; exact z
    have tk : ∀ {k : Nat} {c : Cell}, (S'.take S.length)[k]? = some c → k < S.length ∧ S'[k]? = some c := fun {k c} h => by
      rw [List.getElem?_take] at h
      split at h
      · exact ⟨by assumption, h⟩
      · cases h
    split at e
    · rename_i hb
      cases e
      have ho : ∀ a, Owned B' (S'.take S.length) a → Owned B' S' a := fun a o => by
        rcases o with o | ⟨k, c, h1, h2, h3⟩
        · exact .inl o
        · exact .inr ⟨k, c, (tk h1).2, h2, h3⟩
      have hl : S.length ≤ (S'.take S.length).length := by rw [List.length_take]; have := st.len; omega
      refine ⟨B', ⟨⟨hl, st.agr, st.oth, fun a o h w => st.own a o h (ho a w)⟩, st.hde, st.hdk⟩, ⟨fun i j ci cj h1 h2 => hs'.inj i j ci cj (tk h1).2 (tk h2).2, fun k c h => ?_, hs'.hdt, fun b k c hb h nc => hs'.hdn b k c hb (tk h).2 nc⟩, RV.cut (n := S.length) (fun _ _ => rfl) hl ho _ _ r hb⟩
      exact (hs'.cel k c (tk h).2).cut (n := S.length) (fun _ _ => rfl) hl ho (cb k c (tk h).1 (tk h).2)
    · split at e
      · rename_i k hnb
        split at e
        · rename_i c hk
          split at e
          · rename_i hcd
            cases e
            cases r with
            | ref lt =>
              have hlen : (S'.take S.length).length = S.length := by rw [List.length_take]; have := st.len; omega
              have at_ : ∀ {i : Nat} {ci : Cell}, (S'.take S.length ++ [c])[i]? = some ci → (i < S.length ∧ S'[i]? = some ci ∧ addB B' S.length (B' k) i = B' i) ∨ (i = S.length ∧ ci = c ∧ addB B' S.length (B' k) i = B' k) := fun {i ci} h => by
                rcases at_add h with ⟨l, h'⟩ | ⟨l, h'⟩
                · rw [hlen] at l
                  exact .inl ⟨l, (tk h').2, addB_lt l⟩
                · rw [hlen] at l
                  subst l
                  exact .inr ⟨rfl, h', addB_self⟩
              have hkn : ¬ k < S.length := by
                intro z
                exact hnb (decide_eq_true z)
              have ho : ∀ a, Owned (addB B' S.length (B' k)) (S'.take S.length ++ [c]) a → Owned B' S' a := fun a o => by
                rcases o with o | ⟨i, ci, h1, h2, h3⟩
                · exact .inl o
                · rcases at_ h1 with ⟨q1, q2, q3⟩ | ⟨q1, q2, q3⟩
                  · exact .inr ⟨i, ci, q2, h2, by rw [← q3]; exact h3⟩
                  · exact .inr ⟨k, c, hk, hcd.1, by rw [← q3]; exact h3⟩
              have hl : S.length ≤ (S'.take S.length ++ [c]).length := by rw [List.length_append, hlen]; omega
              have hb : ∀ j, j < S.length → addB B' S.length (B' k) j = B' j := fun j hj => addB_lt hj
              refine ⟨addB B' S.length (B' k), ⟨⟨hl, fun j hj => (hb j hj).trans (st.agr j hj), st.oth, fun a o h w => st.own a o h (ho a w)⟩, st.hde, st.hdk⟩, ⟨fun i j ci cj h1 h2 n1 n2 eq => ?_, fun i ci h => ?_, hs'.hdt, fun b i ci hb1 h nc => ?_⟩, ?_⟩
              · rcases at_ h1 with ⟨p1, p2, p3⟩ | ⟨p1, p2, p3⟩ <;> rcases at_ h2 with ⟨q1, q2, q3⟩ | ⟨q1, q2, q3⟩
                · exact hs'.inj i j ci cj p2 q2 n1 n2 ((p3.symm.trans eq).trans q3)
                · have := hs'.inj i k ci c p2 hk n1 hcd.1 ((p3.symm.trans eq).trans q3)
                  omega
                · have := hs'.inj k j c cj hk q2 hcd.1 n2 ((p3.symm.trans eq).trans q3)
                  omega
                · rw [p1, q1]
              · rcases at_ h with ⟨p1, p2, p3⟩ | ⟨p1, p2, p3⟩
                · rw [p3]
                  exact (hs'.cel i ci p2).cut (n := S.length) hb hl ho (cb i ci p1 p2)
                · rw [p3, p2]
                  exact (hs'.cel k c hk).cut (n := S.length) hb hl ho hcd.2
              · rcases at_ h with ⟨p1, p2, p3⟩ | ⟨p1, p2, p3⟩
                · rw [p3]
                  exact hs'.hdn b i ci hb1 p2 nc
                · rw [p3]
                  exact hs'.hdn b k c hb1 hk hcd.1
              · have e2 : V.ref (B' k) = V.ref (addB B' S.length (B' k) S.length) := by rw [addB_self]
                rw [e2]
                exact .ref (by rw [List.length_append, hlen]; exact Nat.lt_succ_self _)
          · cases e
        · cases e
      · cases e
  · cases e
end
abbrev DF := List D → Store → Option (D × Store)
/-- a def as it works on data -/
noncomputable def callF (n : Nat) (b : DS) : DF := fun ds S => leave S (b (ds.map some ++ List.replicate (n - ds.length) none) S)
/-- the promise of a def: it works so -/
def spD (P : Program) (w : World) (K : PySem.W.Frag) (n : Nat) (F : DF) : Sp := fun vs H Q _ => vs.length = n ∧ ∃ B S ds d S', RS P w K B S H ∧ RVs K B S H vs ds ∧ F ds S = some (d, S') ∧
  ∀ B' v H', Stp B S H B' S' H' → RS P w K B' S' H' → RV K B' S' H' v d → Q v H'
theorem re_start {K : PySem.W.Frag} {B : Wd} {S : Store} {H : Hp} {N : List Str} : ∀ {vs : List V} {ds : List D}, RVs K B S H vs ds → RE K B S H (L2.start N vs) (ds.map some ++ List.replicate (N.length - ds.length) none) := fun {vs ds} r => by
  have hl := r.length
  refine ⟨by simp [L2.start, hl], fun i d e => ?_⟩
  rw [List.getElem?_append] at e
  split at e
  · rename_i h
    rw [List.getElem?_map] at e
    cases q : ds[i]? with
    | none => rw [q] at e; cases e
    | some d' =>
      rw [q] at e
      cases e
      obtain ⟨v, h1, h2⟩ := r.get q
      refine ⟨v, ?_, h2⟩
      unfold L2.start
      rw [List.getElem?_append_left (by rw [List.length_map]; exact (List.getElem?_eq_some_iff.mp h1).1), List.getElem?_map, h1]
      rfl
  · rw [List.getElem?_replicate] at e
    split at e <;> cases e
theorem fn_core {P : Program} {w : World} {K : PySem.W.Frag} {N : List Str} {n : Nat} {c : DS} {vs : List V} {H : Hp} {Q : VK} {E : XK} (h : spD P w K n (callF N.length c) vs H Q E) :
    tS P w K c { nx := fun _ H' => Q .non H', rt := Q } (L2.start N vs) H := by
  obtain ⟨hn, B, S, ds, d, S', hs, r, e, k⟩ := h
  unfold callF leave at e
  split at e
  · rename_i ρ' S1 e1
    refine ⟨B, _, S, _, hs, re_start r, e1, fun B' σ' H' st hs' _ => ?_⟩
    obtain ⟨B2, s1, s2, s3⟩ := leave_ok hs st hs' RV.non e
    exact k B2 _ H' s1 s2 s3
  · rename_i d1 S1 e1
    refine ⟨B, _, S, _, hs, re_start r, e1, fun B' v H' st hs' rv => ?_⟩
    obtain ⟨B2, s1, s2, s3⟩ := leave_ok hs st hs' rv e
    exact k B2 _ H' s1 s2 s3
  · cases e
theorem fnD {P : Program} {w : World} {K : PySem.W.Frag} {mg : Str → Option Value} {base : Heap} {x qual : Str} {st : Stmt} {f : Addr} {fd : FuncData} {N ps : List Str} {k : Nat} {c : DS}
    (F : FunD K x qual (defArgs st) (defBody st) (defScope st) [] [] f fd) (S : FnScope N ps (defScope st))
    (hb : ∀ (cdv : Value) (A : Around) (outer : List Env) (s : Shared) (H : Hp) (E : XK), Room k (A.deeper (envOfC qual (defScope st) s.heap.objs.size f cdv)) →
      PDSs (cxOf CX0 P w K mg base N qual (defScope st) f cdv A outer s H E).nox (defBody st) c) : FnOk P w K mg base CX0 (k + 1) f fd ps (spD P w K ps.length (callF N.length c)) :=
  F.ok S (fun vs H Q E h => h.1) fun cdv A outer s H vs Q E hr h => ⟨tS P w K c, PSs.nox (hb cdv A outer s H E hr), fn_core h⟩
theorem pd_call {X : Cx} {k : Nat} {f : Addr} {fd : FuncData} {ps : List Str} {F : DF} {x : Str} {p pos : Pos} {e : Expr} {es : List Expr} {cs : DA} (G : FnOk X.prog X.w X.K X.mg X.base CX0 k f fd ps (spD X.prog X.w X.K ps.length F)) (hr : Room k X.A) (hg : Gl X x) (hm : X.mg x = some (.ref f)) (hk : PySem.W.keepIn X.K (.ref f) = true) (hb : Binds X.K fd ps [])
    (hl : (e :: es).length = ps.length) (ha : PDA X (e :: es) cs) (hdb : (x == ("__debug__" : Str)) = false := by decide) (he : starEach (e :: es) X.env = (false, eval e X.env) :: starEach es X.env := by rfl) (hpl : (backTo pos (starEach es X.env)).any (·.1) = false := by rfl) :
    PD X (.Call (.Name x p) (e :: es) [] pos) (cApp (fun ds S => if ds.length = ps.length then F ds S else none) cs) :=
  pe_imp (pe_call (E := E0) G hr hg hm hk hb .nil pass0 ha hdb he hpl) fun σ H Q h => tD_app h fun B S H xs dxs d S' hs rx e k => by
    split at e
    · rename_i hl2
      refine ⟨by rw [List.append_nil, rx.length]; exact hl2, B, S, dxs, d, S', hs, by rw [List.append_nil]; exact rx, e, k⟩
    · cases e
end DL

/-! Values: operators, comparisons, subscripts, slices, built-ins. -/
namespace DL
open PySem PySem.Spec PyProof.Rows L2

/-- a list that is read and may be joined; one that is read -/
def asL (S : Store) : D → Option (List D)
  | .lst xs => some xs
  | .ref k => (match S[k]? with
    | some (.lst xs) => some xs
    | _ => none)
  | _ => none
def asQ (S : Store) : D → Option (List D)
  | .scr xs => some xs
  | d => asL S d
section
variable {P : Program} {w : World} {K : PySem.W.Frag} {B : Wd} {S : Store} {H : Hp} {v : V} {d : D} {ds : List D}
theorem asL_ok (hs : RS P w K B S H) (r : RV K B S H v d) (e : asL S d = some ds) : ∃ a xs, v = .ref a ∧ H a = some (.lst xs) ∧ RVs K B S H xs ds := by
  unfold asL at e
  split at e
  · cases e
    cases r with
    | lst h n q => exact ⟨_, _, rfl, h, q⟩
  · split at e
    · rename_i k xs hk
      cases e
      cases r with
      | ref lt =>
        obtain ⟨xs, h, q⟩ := hs.cel _ _ hk
        exact ⟨_, xs, rfl, h, q⟩
    · cases e
  · cases e
theorem asQ_ok (hs : RS P w K B S H) (r : RV K B S H v d) (e : asQ S d = some ds) : ∃ a xs, v = .ref a ∧ SqL K H a xs ∧ RVs K B S H xs ds := by
  unfold asQ at e
  split at e
  · cases e
    cases r with
    | lstF h n q => exact ⟨_, _, rfl, .inl (.inr ⟨_, h⟩), q⟩
    | lstK h q => exact ⟨_, _, rfl, h H, q⟩
  · obtain ⟨a, xs, h1, h2, h3⟩ := asL_ok hs r e
    exact ⟨a, xs, h1, SqL.of h2, h3⟩
theorem RV.intI {i : Int} (r : RV K B S H v (.int i)) : v = .int i := by cases r; rfl
theorem RV.blI {i : Bool} (r : RV K B S H v (.bl i)) : v = .bl i := by cases r; rfl
theorem RV.strI {i : Str} (r : RV K B S H v (.str i)) : v = .str i := by cases r; rfl
theorem RV.nonI (r : RV K B S H v .non) : v = .non := by cases r; rfl
end

/-! ### + - * // % ** -/
def addD : D → D → Store → Option (D × Store) := fun x y S => match x, y with
  | .int a, .int b => some (.int (a + b), S)
  | .int a, .bl b => some (.int (a + b2i b), S)
  | .str a, .str b => if a.length + b.length ≤ sizeLine then some (.str (a ++ b), S) else none
  | .tup a, .tup b => if a.length + b.length ≤ sizeLine then some (.tup (a ++ b), S) else none
  | x, y => (match asL S x with
    | some a => (match asL S y with
      | some b => if a.length + b.length ≤ sizeLine then some (.lst (a ++ b), S) else none
      | none => none)
    | none => none)
def subD : D → D → Store → Option (D × Store) := fun x y S => match x, y with
  | .int a, .int b => some (.int (a - b), S)
  | _, _ => none
def inM (a b : Int) : Prop := (-(2 ^ 64) < a ∧ a < 2 ^ 64) ∨ (-(2 ^ 64) < b ∧ b < 2 ^ 64)
def inP (a b : Int) : Prop := 0 ≤ b ∧ b ≤ 1000000 ∧ a.natAbs < 2 ^ 64
open Classical in
noncomputable def mulD : D → D → Store → Option (D × Store) := fun x y S => match x, y with
  | .int a, .int b => if inM a b then some (.int (a * b), S) else none
  | _, _ => none
def fdivD : D → D → Store → Option (D × Store) := fun x y S => match x, y with
  | .int a, .int b => if b ≠ 0 ∧ b.natAbs < 1073741824 then some (.int (a.fdiv b), S) else none
  | _, _ => none
def modD : D → D → Store → Option (D × Store) := fun x y S => match x, y with
  | .int a, .int b => if b ≠ 0 then some (.int (a.fmod b), S) else none
  | _, _ => none
open Classical in
noncomputable def powD : D → D → Store → Option (D × Store) := fun x y S => match x, y with
  | .int a, .int b => if inP a b then some (.int (a ^ b.toNat), S) else none
  | _, _ => none
def negD : D → Store → Option (D × Store) := fun x S => match x with
  | .int a => some (.int (-a), S)
  | _ => none
section
variable {P : Program} {w : World} {K : PySem.W.Frag}
theorem ok_add : Ok2 P w K (fun x y H Q => rI0 (fun i j => .int (i + j)) x y H Q ∨ (∃ i k, x = .int i ∧ y = .bl k ∧ Q (.int (i + b2i k)) H) ∨ (∃ i j, x = .str i ∧ y = .str j ∧ i.length + j.length ≤ sizeLine ∧ Q (.str (i ++ j)) H) ∨ rCatA K x y H Q ∨ rCat x y H Q) addD := by
  intro B S H x y dx dy d S' Q hs rx ry e k
  unfold addD at e
  split at e
  · cases e; exact .inl ⟨_, _, rx.intI, ry.intI, k B _ H (Stp.refl ..) hs (.int _)⟩
  · cases e; exact .inr (.inl ⟨_, _, rx.intI, ry.blI, k B _ H (Stp.refl ..) hs (.int _)⟩)
  · split at e
    · rename_i hl
      cases e; exact .inr (.inr (.inl ⟨_, _, rx.strI, ry.strI, hl, k B _ H (Stp.refl ..) hs (.str _)⟩))
    · cases e
  · split at e
    · rename_i hl
      cases e
      obtain ⟨a, xs, ea, ha, qa⟩ := rx.tupI
      obtain ⟨b, ys, eb, hb, qb⟩ := ry.tupI
      refine .inr (.inr (.inr (.inl ⟨a, b, xs, ys, ea, eb, ha, hb, by rw [qa.length, qb.length]; exact hl, fun h => ?_, fun _ h => ?_, fun _ _ p hp => ?_⟩)))
      · subst h
        cases qa
        rw [← eb]
        exact k B _ H (Stp.refl ..) hs ry
      · subst h
        cases qb
        rw [List.append_nil] at k
        rw [← ea]
        exact k B _ H (Stp.refl ..) hs rx
      · exact k B _ _ (Stp.new hs hp) (hs.new hp) (RV.newTup hs hp (qa.append qb))
    · cases e
  · split at e
    · rename_i a ea
      split at e
      · rename_i b eb
        split at e
        · rename_i hl
          cases e
          obtain ⟨p, xs, h1, h2, h3⟩ := asL_ok hs rx ea
          obtain ⟨q, ys, g1, g2, g3⟩ := asL_ok hs ry eb
          exact .inr (.inr (.inr (.inr ⟨p, q, xs, ys, h1, g1, h2, g2, by rw [h3.length, g3.length]; exact hl, fun z hz => k B _ _ (Stp.new hs hz) (hs.new hz) (RV.newLst hs hz (h3.append g3))⟩)))
        · cases e
      · cases e
    · cases e
theorem ok_sub : Ok2 P w K (rI0 (fun i j => .int (i - j))) subD := by
  intro B S H x y dx dy d S' Q hs rx ry e k
  unfold subD at e
  split at e
  · cases e; exact ⟨_, _, rx.intI, ry.intI, k B _ H (Stp.refl ..) hs (.int _)⟩
  · cases e
theorem ok_mul : Ok2 P w K (rI CMul fun i j => .int (i * j)) mulD := by
  intro B S H x y dx dy d S' Q hs rx ry e k
  unfold mulD at e
  split at e
  · split at e
    · rename_i hc
      cases e; exact ⟨_, _, rx.intI, ry.intI, hc, k B _ H (Stp.refl ..) hs (.int _)⟩
    · cases e
  · cases e
theorem ok_fdiv : Ok2 P w K (rI CDivN fun i j => .int (i.fdiv j)) fdivD := by
  intro B S H x y dx dy d S' Q hs rx ry e k
  unfold fdivD at e
  split at e
  · split at e
    · rename_i hc
      cases e; exact ⟨_, _, rx.intI, ry.intI, hc, k B _ H (Stp.refl ..) hs (.int _)⟩
    · cases e
  · cases e
theorem ok_mod : Ok2 P w K (rI (fun _ j => j ≠ 0) fun i j => .int (i.fmod j)) modD := by
  intro B S H x y dx dy d S' Q hs rx ry e k
  unfold modD at e
  split at e
  · split at e
    · rename_i hc
      cases e; exact ⟨_, _, rx.intI, ry.intI, hc, k B _ H (Stp.refl ..) hs (.int _)⟩
    · cases e
  · cases e
theorem ok_pow : Ok2 P w K (rI CPow fun i j => .int (i ^ j.toNat)) powD := by
  intro B S H x y dx dy d S' Q hs rx ry e k
  unfold powD at e
  split at e
  · split at e
    · rename_i hc
      cases e; exact ⟨_, _, rx.intI, ry.intI, hc, k B _ H (Stp.refl ..) hs (.int _)⟩
    · cases e
  · cases e
theorem ok_neg : Ok1 P w K (rU fun i => .int (-i)) negD := by
  intro B S H x dx d S' Q hs rx e k
  unfold negD at e
  split at e
  · cases e; exact ⟨_, rx.intI, k B _ H (Stp.refl ..) hs (.int _)⟩
  · cases e
end
section
variable {X : Cx} {a b : Expr} {ca cb : DE} {pos : Pos}
theorem pd_add (ha : PD X a ca) (hb : PD X b cb) : PD X (.BinOp a .Add b pos) (cBin addD ca cb) := pd_op (op_add.or (op_add_ib.or (op_add_str.or (op_catA.or op_cat)))) ok_add ha hb
theorem pd_sub (ha : PD X a ca) (hb : PD X b cb) : PD X (.BinOp a .Sub b pos) (cBin subD ca cb) := pd_op op_sub ok_sub ha hb
theorem pd_mul (ha : PD X a ca) (hb : PD X b cb) : PD X (.BinOp a .Mult b pos) (cBin mulD ca cb) := pd_op op_mul ok_mul ha hb
theorem pd_fdiv (ha : PD X a ca) (hb : PD X b cb) : PD X (.BinOp a .FloorDiv b pos) (cBin fdivD ca cb) := pd_op op_fdivN ok_fdiv ha hb
theorem pd_mod (ha : PD X a ca) (hb : PD X b cb) : PD X (.BinOp a .Mod b pos) (cBin modD ca cb) := pd_op op_modN ok_mod ha hb
theorem pd_pow (ha : PD X a ca) (hb : PD X b cb) : PD X (.BinOp a .Pow b pos) (cBin powD ca cb) := pd_op op_pow ok_pow ha hb
theorem pd_neg (ha : PD X a ca) : PD X (.UnaryOp .USub a pos) (cUn negD ca) := pd_un un_neg ok_neg ha
end

/-! ### comparisons -/
/-- == of what == tells apart plainly -/
def eqS : D → D → Option Bool := fun x y => match x, y with
  | .non, .non => some true
  | .non, .int _ => some false
  | .int _, .non => some false
  | .non, .bl _ => some false
  | .bl _, .non => some false
  | .non, .str _ => some false
  | .str _, .non => some false
  | .int a, .int b => some (decide (a = b))
  | .bl a, .bl b => some (decide (a = b))
  | .str a, .str b => some (decide (a = b))
  | .int _, .str _ => some false
  | .str _, .int _ => some false
  | .bl _, .str _ => some false
  | .str _, .bl _ => some false
  | _, _ => none
def eqD : D → D → Store → Option (D × Store) := fun x y S => (eqS x y).map fun b => (.bl b, S)
def neD : D → D → Store → Option (D × Store) := fun x y S => (eqS x y).map fun b => (.bl (!b), S)
def cmpD (p : Int → Int → Bool) : D → D → Store → Option (D × Store) := fun x y S => match x, y with
  | .int a, .int b => some (.bl (p a b), S)
  | _, _ => none
def isND : D → D → Store → Option (D × Store) := fun x y S => match y with
  | .non => (match x with
    | .non => some (.bl true, S)
    | _ => some (.bl false, S))
  | _ => none
def notND : D → D → Store → Option (D × Store) := fun x y S => match y with
  | .non => (match x with
    | .non => some (.bl false, S)
    | _ => some (.bl true, S))
  | _ => none
section
variable {P : Program} {w : World} {K : PySem.W.Frag} {B : Wd} {S : Store} {H : Hp}
theorem eqS_ok {x y : V} {dx dy : D} {b : Bool} (rx : RV K B S H x dx) (ry : RV K B S H y dy) (e : eqS dx dy = some b) : scal x y = true ∧ decide (x = y) = b := by
  unfold eqS at e
  split at e <;> first
    | (simp at e; done)
    | (cases rx; cases ry; cases e; exact ⟨rfl, by simp⟩)
theorem ok_eq : Ok2 P w K rEq eqD := by
  intro B S H x y dx dy d S' Q hs rx ry e k
  unfold eqD at e
  obtain ⟨b, e1, e2⟩ := Option.map_eq_some_iff.mp e
  cases e2
  obtain ⟨h1, h2⟩ := eqS_ok rx ry e1
  exact ⟨h1, by rw [h2]; exact k B _ H (Stp.refl ..) hs (.bl _)⟩
theorem ok_ne : Ok2 P w K rNe neD := by
  intro B S H x y dx dy d S' Q hs rx ry e k
  unfold neD at e
  obtain ⟨b, e1, e2⟩ := Option.map_eq_some_iff.mp e
  cases e2
  obtain ⟨h1, h2⟩ := eqS_ok rx ry e1
  exact ⟨h1, by rw [h2]; exact k B _ H (Stp.refl ..) hs (.bl _)⟩
theorem ok_cmp {p : Int → Int → Bool} : Ok2 P w K (rI0 fun i j => .bl (p i j)) (cmpD p) := by
  intro B S H x y dx dy d S' Q hs rx ry e k
  unfold cmpD at e
  split at e
  · cases e; exact ⟨_, _, rx.intI, ry.intI, k B _ H (Stp.refl ..) hs (.bl _)⟩
  · cases e
theorem RV.non_iff {x : V} {dx : D} (r : RV K B S H x dx) : decide (x = .non) = (match dx with | .non => true | _ => false) := by
  cases r <;> simp
theorem ok_isN : Ok2 P w K (fun x y H Q => y = .non ∧ Q (.bl (decide (x = .non))) H) isND := by
  intro B S H x y dx dy d S' Q hs rx ry e k
  unfold isND at e
  split at e
  · refine ⟨ry.nonI, ?_⟩
    rw [rx.non_iff]
    split at e
    · cases e; exact k B _ H (Stp.refl ..) hs (.bl _)
    · rename_i hn
      cases e
      cases dx <;> first
        | exact absurd rfl hn
        | exact k B _ H (Stp.refl ..) hs (.bl _)
  · cases e
theorem ok_notN : Ok2 P w K (fun x y H Q => y = .non ∧ Q (.bl (!decide (x = .non))) H) notND := by
  intro B S H x y dx dy d S' Q hs rx ry e k
  unfold notND at e
  split at e
  · refine ⟨ry.nonI, ?_⟩
    rw [rx.non_iff]
    split at e
    · cases e; exact k B _ H (Stp.refl ..) hs (.bl _)
    · rename_i hn
      cases e
      cases dx <;> first
        | exact absurd rfl hn
        | exact k B _ H (Stp.refl ..) hs (.bl _)
  · cases e
end
abbrev ltD := cmpD fun i j => decide (i < j)
abbrev leD := cmpD fun i j => decide (i ≤ j)
abbrev gtD := cmpD fun i j => decide (j < i)
abbrev geD := cmpD fun i j => decide (j ≤ i)
section
variable {X : Cx} {a b c : Expr} {ca cb cc : DE} {pos : Pos}
theorem pd_lt (ha : PD X a ca) (hb : PD X b cb) : PD X (.Compare a [.Lt] [b] pos) (cBin ltD ca cb) := pd_cmp op_lt ok_cmp (nomark _) ha hb
theorem pd_le (ha : PD X a ca) (hb : PD X b cb) : PD X (.Compare a [.LtE] [b] pos) (cBin leD ca cb) := pd_cmp op_le ok_cmp (nomark _) ha hb
theorem pd_gt (ha : PD X a ca) (hb : PD X b cb) : PD X (.Compare a [.Gt] [b] pos) (cBin gtD ca cb) := pd_cmp op_gt ok_cmp (nomark _) ha hb
theorem pd_ge (ha : PD X a ca) (hb : PD X b cb) : PD X (.Compare a [.GtE] [b] pos) (cBin geD ca cb) := pd_cmp op_ge ok_cmp (nomark _) ha hb
theorem pd_eq (ha : PD X a ca) (hb : PD X b cb) : PD X (.Compare a [.Eq] [b] pos) (cBin eqD ca cb) := pd_cmp op_eq ok_eq (nomark _) ha hb
theorem pd_ne (ha : PD X a ca) (hb : PD X b cb) : PD X (.Compare a [.NotEq] [b] pos) (cBin neD ca cb) := pd_cmp op_ne ok_ne (nomark _) ha hb
theorem pd_isN (ha : PD X a ca) (hb : PD X b cb) : PD X (.Compare a [.Is] [b] pos) (cBin isND ca cb) := pd_cmp op_isN ok_isN (nomark _) ha hb
theorem pd_notN (ha : PD X a ca) (hb : PD X b cb) : PD X (.Compare a [.IsNot] [b] pos) (cBin notND ca cb) := pd_cmp op_notN ok_notN (nomark _) ha hb
theorem pdt_lt (ha : PD X a ca) (hb : PD X b cb) : PDT X (.Compare a [.Lt] [b] pos) (cB (cBin ltD ca cb)) := pdt_cmp op_lt ok_cmp (nomark _) ha hb
theorem pdt_le (ha : PD X a ca) (hb : PD X b cb) : PDT X (.Compare a [.LtE] [b] pos) (cB (cBin leD ca cb)) := pdt_cmp op_le ok_cmp (nomark _) ha hb
theorem pdt_gt (ha : PD X a ca) (hb : PD X b cb) : PDT X (.Compare a [.Gt] [b] pos) (cB (cBin gtD ca cb)) := pdt_cmp op_gt ok_cmp (nomark _) ha hb
theorem pdt_ge (ha : PD X a ca) (hb : PD X b cb) : PDT X (.Compare a [.GtE] [b] pos) (cB (cBin geD ca cb)) := pdt_cmp op_ge ok_cmp (nomark _) ha hb
theorem pdt_eq (ha : PD X a ca) (hb : PD X b cb) : PDT X (.Compare a [.Eq] [b] pos) (cB (cBin eqD ca cb)) := pdt_cmp op_eq ok_eq (nomark _) ha hb
theorem pdt_ne (ha : PD X a ca) (hb : PD X b cb) : PDT X (.Compare a [.NotEq] [b] pos) (cB (cBin neD ca cb)) := pdt_cmp op_ne ok_ne (nomark _) ha hb
theorem pdt_isN (ha : PD X a ca) (hb : PD X b cb) : PDT X (.Compare a [.Is] [b] pos) (cB (cBin isND ca cb)) := pdt_cmp op_isN ok_isN (nomark _) ha hb
theorem pdt_notN (ha : PD X a ca) (hb : PD X b cb) : PDT X (.Compare a [.IsNot] [b] pos) (cB (cBin notND ca cb)) := pdt_cmp op_notN ok_notN (nomark _) ha hb
/-- a <= b <= c, of ints -/
def cChain (f g : D → D → Store → Option (D × Store)) (a b c : DE) : DE := fun ρ S => match a ρ S with
  | some (x, S1) => (match b ρ S1 with
    | some (y, S2) => (match f x y S2 with
      | some (.bl true, S3) => (match c ρ S3 with
        | some (z, S4) => g y z S4
        | none => none)
      | some (.bl false, S3) => some (.bl false, S3)
      | _ => none)
    | none => none)
  | none => none
theorem pd_chain {op op' : CmpOp} {r r' : R2} {f g : D → D → Store → Option (D × Store)} (h : PE X (.Compare a [op, op'] [b, c] pos) (tChain r r' (tD X.prog X.w X.K ca) (tD X.prog X.w X.K cb) (tD X.prog X.w X.K cc))) (hf : Ok2 X.prog X.w X.K r f) (hg : Ok2 X.prog X.w X.K r' g) :
    PD X (.Compare a [op, op'] [b, c] pos) (cChain f g ca cb cc) := pe_imp h fun σ H Q ⟨B, ρ, S, d, S', hs, he, e, k⟩ => by
  unfold cChain at e
  split at e
  · rename_i x S1 e1
    split at e
    · rename_i y S2 e2
      refine ⟨B, ρ, S, x, S1, hs, he, e1, fun B1 v1 H1 st1 hs1 r1 => ⟨B1, ρ, S1, y, S2, hs1, he.mono st1, e2, fun B2 v2 H2 st2 hs2 r2 => ?_⟩⟩
      split at e
      · rename_i S3 e3
        refine hf B2 S2 H2 v1 v2 x y _ S3 _ hs2 (RV.mono st2 _ _ r1) r2 e3 fun B3 v3 H3 st3 hs3 r3 => ?_
        cases r3
        refine ⟨_, rfl, iteT ?_⟩
        split at e
        · rename_i z S4 e4
          refine ⟨B3, ρ, S3, z, S4, hs3, he.mono ((st1.trans st2).trans st3), e4, fun B4 v4 H4 st4 hs4 r4 => ?_⟩
          exact hg B4 S4 H4 v2 v4 y z d S' _ hs4 (RV.mono (st3.trans st4) _ _ r2) r4 e fun B5 v5 H5 st5 hs5 r5 => k B5 v5 H5 ((((st1.trans st2).trans st3).trans st4).trans st5) hs5 r5
        · cases e
      · rename_i S3 e3
        cases e
        refine hf B2 S2 H2 v1 v2 x y _ _ _ hs2 (RV.mono st2 _ _ r1) r2 e3 fun B3 v3 H3 st3 hs3 r3 => ?_
        cases r3
        exact ⟨_, rfl, iteF (k B3 _ H3 ((st1.trans st2).trans st3) hs3 (.bl _))⟩
      · cases e
    · cases e
  · cases e
end

/-! ### subscripts, slices -/
def ixD : D → D → Store → Option (D × Store) := fun x y S => match x, y with
  | .tup xs, .int i => (atI xs i).map fun d => (d, S)
  | .str z, .int i => if z.length ≤ sizeLine then (atI z.cps.toList i).map fun c => (.str ⟨#[c]⟩, S) else none
  | x, .int i => (match asQ S x with
    | some xs => (atI xs i).map fun d => (d, S)
    | none => none)
  | _, _ => none
theorem RVs.atI {K : PySem.W.Frag} {B : Wd} {S : Store} {H : Hp} {ds : List D} {vs : List V} {i : Int} {d : D} (r : RVs K B S H vs ds) (e : L2.atI ds i = some d) : ∃ v, L2.atI vs i = some v ∧ RV K B S H v d := by
  unfold L2.atI at e ⊢
  rw [r.length]
  cases q : L2.ixN ds.length i with
  | none => rw [q] at e; cases e
  | some j =>
    rw [q] at e
    exact r.get e
theorem ok_ix {P : Program} {w : World} {K : PySem.W.Frag} : Ok2 P w K (rIx K) ixD := by
  intro B S H x y dx dy d S' Q hs rx ry e k
  unfold ixD at e
  split at e
  · obtain ⟨z, e1, e2⟩ := Option.map_eq_some_iff.mp e
    cases e2
    obtain ⟨a, xs, ea, ha, qa⟩ := rx.tupI
    obtain ⟨v, h1, h2⟩ := qa.atI e1
    exact .inr (.inl ⟨a, xs, _, v, ea, ry.intI, ha, h1, k B _ H (Stp.refl ..) hs h2⟩)
  · split at e
    · rename_i hl
      obtain ⟨z, e1, e2⟩ := Option.map_eq_some_iff.mp e
      cases e2
      exact .inr (.inr ⟨_, _, z, rx.strI, ry.intI, hl, e1, k B _ H (Stp.refl ..) hs (.str _)⟩)
    · cases e
  · split at e
    · rename_i xs ex
      obtain ⟨z, e1, e2⟩ := Option.map_eq_some_iff.mp e
      cases e2
      obtain ⟨a, us, ea, ha, qa⟩ := asQ_ok hs rx ex
      obtain ⟨v, h1, h2⟩ := qa.atI e1
      exact .inl ⟨a, us, _, v, ea, ry.intI, ha, h1, k B _ H (Stp.refl ..) hs h2⟩
    · cases e
  · cases e
theorem pd_ix {X : Cx} {a b : Expr} {ca cb : DE} {pos : Pos} (ha : PD X a ca) (hb : PD X b cb) (hs : PlainIx b := by exact fun _ _ => rfl) : PD X (.Subscript a b pos) (cBin ixD ca cb) :=
  pe_imp (pe_ix ix_seq ha hb hs) fun σ H Q h => tD_bin h fun B S H x y dx dy d S' hs rx ry e k => ok_ix B S H x y dx dy d S' Q hs rx ry e k
def cutD (xs : List D) (lo hi : Option Int) : List D := (xs.drop (HT.sIx xs.length 0 lo)).take (HT.sIx xs.length xs.length hi - HT.sIx xs.length 0 lo)
theorem RVs.cutD {K : PySem.W.Frag} {B : Wd} {S : Store} {H : Hp} {ds : List D} {vs : List V} (lo hi : Option Int) (r : RVs K B S H vs ds) : RVs K B S H (cutV vs lo hi) (cutD ds lo hi) := by
  unfold cutV DL.cutD
  rw [r.length]
  exact (r.drop _).take _
/-- a slice; bx: whether the new list is a cell -/
def slD (bx : Bool) (x : D) (lo hi : Option Int) (S : Store) : Option (D × Store) := match x with
  | .tup xs => some (.tup (cutD xs lo hi), S)
  | x => (match asQ S x with
    | some xs => if bx = true then some (.ref S.length, S ++ [.lst (cutD xs lo hi)]) else some (.lst (cutD xs lo hi), S)
    | none => none)
/-- a part of a slice -/
abbrev DO := Env' → Store → Option (Option Int × Store)
def oNo : DO := fun _ S => some (none, S)
def oSome (c : DE) : DO := fun ρ S => match c ρ S with
  | some (.int i, S') => some (some i, S')
  | _ => none
def tO (P : Program) (w : World) (K : PySem.W.Frag) (c : DO) : TO := fun σ H Q => ∃ B ρ S i S', RS P w K B S H ∧ RE K B S H σ ρ ∧ c ρ S = some (i, S') ∧ ∀ B' H', Stp B S H B' S' H' → RS P w K B' S' H' → Q i H'
theorem po_imp {X : Cx} {e : Option Expr} {t t' : TO} (h : PO X e t) (i : ∀ σ H Q, t' σ H Q → t σ H Q) : PO X e t' := ⟨fun pins s σ H Q I hw => h.run pins s σ H Q I (i σ H Q hw)⟩
theorem pdo_none {X : Cx} : PO X none (tO X.prog X.w X.K oNo) := po_imp po_none fun σ H Q ⟨B, ρ, S, i, S', hs, he, e, k⟩ => by
  cases e
  exact k B H (Stp.refl ..) hs
theorem pdo_some {X : Cx} {e : Expr} {c : DE} (h : PD X e c) : PO X (some e) (tO X.prog X.w X.K (oSome c)) := po_imp (po_some h) fun σ H Q ⟨B, ρ, S, i, S', hs, he, e, k⟩ => by
  unfold oSome at e
  split at e
  · rename_i j S1 e1
    cases e
    exact ⟨B, ρ, S, _, _, hs, he, e1, fun B' v H' st hs' r => ⟨j, r.intI, k B' H' st hs'⟩⟩
  · cases e
def cSl (bx : Bool) (a : DE) (lo hi : DO) : DE := fun ρ S => match a ρ S with
  | some (x, S1) => (match lo ρ S1 with
    | some (l, S2) => (match hi ρ S2 with
      | some (u, S3) => slD bx x l u S3
      | none => none)
    | none => none)
  | none => none
theorem cut_whole {xs : List D} {lo hi : Option Int} (h : HT.sIx xs.length 0 lo = 0 ∧ HT.sIx xs.length xs.length hi = xs.length) : cutD xs lo hi = xs := by
  unfold cutD
  rw [h.1, h.2]
  simp
theorem pd_slice {X : Cx} {e : Expr} {lo hi : Option Expr} {c : DE} {cl ch : DO} {bx : Bool} {p2 pos : Pos} (he : PD X e c) (hl : PO X lo (tO X.prog X.w X.K cl)) (hh : PO X hi (tO X.prog X.w X.K ch)) : PD X (.Subscript e (.Slice lo hi none p2) pos) (cSl bx c cl ch) :=
  pe_imp (pe_slice (sl_tupA.or sl_list) he hl hh) fun σ H Q ⟨B, ρ, S, d, S', hs, he, e, k⟩ => by
    unfold cSl at e
    split at e
    · rename_i x S1 e1
      split at e
      · rename_i l S2 e2
        split at e
        · rename_i u S3 e3
          refine ⟨B, ρ, S, x, S1, hs, he, e1, fun B1 v1 H1 st1 hs1 r1 => ⟨B1, ρ, S1, l, S2, hs1, he.mono st1, e2, fun B2 H2 st2 hs2 => ⟨B2, ρ, S2, u, S3, hs2, he.mono (st1.trans st2), e3, fun B3 H3 st3 hs3 => ?_⟩⟩⟩
          have st := (st1.trans st2).trans st3
          have r3 := RV.mono (st2.trans st3) _ _ r1
          unfold slD at e
          split at e
          · cases e
            obtain ⟨a, xs, ea, ha, qa⟩ := r3.tupI
            refine .inl ⟨a, xs, ea, ha, fun h => ?_, fun h p hp => ?_⟩
            · rw [qa.length] at h
              rw [cut_whole h] at k
              rw [← ea]
              exact k B3 _ H3 st hs3 r3
            · exact k B3 _ _ (st.trans (Stp.new hs3 hp)) (hs3.new hp) (RV.newTup hs3 hp (qa.cutD l u))
          · split at e
            · rename_i xs ex
              obtain ⟨a, us, ea, ha, qa⟩ := asQ_ok hs3 r3 ex
              refine .inr ⟨a, us, ea, ha, fun p hp => ?_⟩
              split at e
              · cases e
                obtain ⟨h1, h2, h3⟩ := box_new hs3 (qa.cutD l u) hp
                exact k _ _ _ (st.trans h1) h2 h3
              · cases e
                exact k B3 _ _ (st.trans (Stp.new hs3 hp)) (hs3.new hp) (RV.newLst hs3 hp (qa.cutD l u))
            · cases e
        · cases e
      · cases e
    · cases e
/-- xs[::-1] -/
def revD : D → Store → Option (D × Store) := fun x S => match asQ S x with
  | some xs => some (.lst xs.reverse, S)
  | none => none
theorem pd_rev {X : Cx} {e : Expr} {c : DE} {k : Nat} {p1 p2 p3 pos : Pos} (he : PD X e c) : PD X (.Subscript e (.Slice none none (some (.UnaryOp .USub (.Constant (.int 1) k p1) p2)) p3) pos) (cUn revD c) :=
  pe_imp (pe_revL he) fun σ H Q h => tD_un h fun B S H x dx d S' hs rx e k => by
    unfold revD at e
    split at e
    · rename_i xs ex
      cases e
      obtain ⟨a, us, ea, ha, qa⟩ := asQ_ok hs rx ex
      exact ⟨a, us, ea, ha, fun p hp => k B _ _ (Stp.new hs hp) (hs.new hp) (RV.newLst hs hp qa.reverse)⟩
    · cases e
/-- a cell's list is taken as it is: nobody changes it any more -/
def cFrz (a : DE) : DE := fun ρ S => match a ρ S with
  | some (.ref k, S1) => (match S1[k]? with
    | some (.lst ds) => some (.lst ds, S1.set k .dead)
    | _ => none)
  | r => r
theorem pd_frz {X : Cx} {e : Expr} {c : DE} (he : PD X e c) : PD X e (cFrz c) := pe_imp he fun σ H Q ⟨B, ρ, S, d, S', hs, he, e, k⟩ => by
  unfold cFrz at e
  split at e
  · rename_i j S1 e1
    split at e
    · rename_i ds hd
      cases e
      refine ⟨B, ρ, S, _, _, hs, he, e1, fun B' v H' st hs' r => ?_⟩
      cases r with
      | ref lt => exact k B' _ H' (st.trans Stp.die) hs'.die (RV.died hs' hd)
    · cases e
  · exact ⟨B, ρ, S, _, _, hs, he, e, k⟩
end DL

/-! Built-ins by name. -/
namespace DL
open PySem PySem.Spec PyProof.Rows L2

def asInts : List D → Option (List Int)
  | [] => some []
  | .int i :: ds => (asInts ds).map (i :: ·)
  | _ => none
def asBls : List D → Option (List Bool)
  | [] => some []
  | .bl i :: ds => (asBls ds).map (i :: ·)
  | _ => none
section
variable {P : Program} {w : World} {K : PySem.W.Frag} {B : Wd} {S : Store} {H : Hp}
theorem asInts_ok : ∀ {ds : List D} {ns : List Int} {vs : List V}, asInts ds = some ns → RVs K B S H vs ds → vs = ns.map V.int
  | [], _, _, e, r => by cases e; cases r; rfl
  | .int i :: ds, ns, _, e, r => by
    obtain ⟨ms, e1, e2⟩ := Option.map_eq_some_iff.mp (show (asInts ds).map (i :: ·) = some ns from e)
    subst e2
    cases r with
    | cons r1 r2 => rw [asInts_ok e1 r2, r1.intI]; rfl
  | .non :: _, _, _, e, _ => by cases e
  | .bl _ :: _, _, _, e, _ => by cases e
  | .str _ :: _, _, _, e, _ => by cases e
  | .tup _ :: _, _, _, e, _ => by cases e
  | .lst _ :: _, _, _, e, _ => by cases e
  | .scr _ :: _, _, _, e, _ => by cases e
  | .ref _ :: _, _, _, e, _ => by cases e
theorem asInts_len : ∀ {ds : List D} {ns : List Int}, asInts ds = some ns → ns.length = ds.length
  | [], _, e => by cases e; rfl
  | .int i :: ds, ns, e => by
    obtain ⟨ms, e1, e2⟩ := Option.map_eq_some_iff.mp (show (asInts ds).map (i :: ·) = some ns from e)
    subst e2
    simp [asInts_len e1]
  | .non :: _, _, e => by cases e
  | .bl _ :: _, _, e => by cases e
  | .str _ :: _, _, e => by cases e
  | .tup _ :: _, _, e => by cases e
  | .lst _ :: _, _, e => by cases e
  | .scr _ :: _, _, e => by cases e
  | .ref _ :: _, _, e => by cases e
theorem asBls_ok : ∀ {ds : List D} {ns : List Bool} {vs : List V}, asBls ds = some ns → RVs K B S H vs ds → vs = ns.map V.bl
  | [], _, _, e, r => by cases e; cases r; rfl
  | .bl i :: ds, ns, _, e, r => by
    obtain ⟨ms, e1, e2⟩ := Option.map_eq_some_iff.mp (show (asBls ds).map (i :: ·) = some ns from e)
    subst e2
    cases r with
    | cons r1 r2 => rw [asBls_ok e1 r2, r1.blI]; rfl
  | .non :: _, _, _, e, _ => by cases e
  | .int _ :: _, _, _, e, _ => by cases e
  | .str _ :: _, _, _, e, _ => by cases e
  | .tup _ :: _, _, _, e, _ => by cases e
  | .lst _ :: _, _, _, e, _ => by cases e
  | .scr _ :: _, _, _, e, _ => by cases e
  | .ref _ :: _, _, _, e, _ => by cases e
theorem RVs.one {vs : List V} {d : D} (r : RVs K B S H vs [d]) : ∃ v, vs = [v] ∧ RV K B S H v d := by
  cases r with
  | cons r1 r2 => cases r2; exact ⟨_, rfl, r1⟩
theorem RVs.two {vs : List V} {d e : D} (r : RVs K B S H vs [d, e]) : ∃ v u, vs = [v, u] ∧ RV K B S H v d ∧ RV K B S H u e := by
  cases r with
  | cons r1 r2 =>
    cases r2 with
    | cons r2 r3 => cases r3; exact ⟨_, _, rfl, r1, r2⟩
end

def lenD : List D → Store → Option (D × Store) := fun xs S => match xs with
  | [.tup ds] => some (.int ds.length, S)
  | [.str z] => if z.length ≤ sizeLine then some (.int z.length, S) else none
  | [x] => (match asQ S x with
    | some ds => some (.int ds.length, S)
    | none => none)
  | _ => none
def absD : List D → Store → Option (D × Store) := fun xs S => match xs with
  | [.int i] => some (.int (if i < 0 then -i else i), S)
  | _ => none
def intD : List D → Store → Option (D × Store) := fun xs S => match xs with
  | [.int i] => some (.int i, S)
  | [.bl k] => some (.int (if k then 1 else 0), S)
  | _ => none
def strD : List D → Store → Option (D × Store) := fun xs S => match xs with
  | [.int i] => if i.natAbs.log2 < 1920 then some (.str (toString i), S) else none
  | _ => none
def maxL : List Int → Int
  | [] => 0
  | [x] => x
  | x :: xs => max x (maxL xs)
def minL : List Int → Int
  | [] => 0
  | [x] => x
  | x :: xs => min x (minL xs)
theorem maxL_spec : ∀ {xs : List Int}, xs ≠ [] → maxL xs ∈ xs ∧ ∀ y ∈ xs, y ≤ maxL xs
  | [], h => absurd rfl h
  | [x], _ => ⟨by simp [maxL], fun y hy => by simp at hy; simp [maxL, hy]⟩
  | x :: y :: ys, _ => by
    obtain ⟨h1, h2⟩ := maxL_spec (xs := y :: ys) (by simp)
    show max x (maxL (y :: ys)) ∈ _ ∧ ∀ z ∈ _, z ≤ max x (maxL (y :: ys))
    refine ⟨?_, fun z hz => ?_⟩
    · rcases Int.le_total x (maxL (y :: ys)) with h | h
      · rw [Int.max_eq_right h]; exact List.mem_cons_of_mem _ h1
      · rw [Int.max_eq_left h]; exact List.mem_cons_self
    · rcases List.mem_cons.mp hz with e | hz
      · rw [e]; exact Int.le_max_left ..
      · exact Int.le_trans (h2 z hz) (Int.le_max_right ..)
theorem minL_spec : ∀ {xs : List Int}, xs ≠ [] → minL xs ∈ xs ∧ ∀ y ∈ xs, minL xs ≤ y
  | [], h => absurd rfl h
  | [x], _ => ⟨by simp [minL], fun y hy => by simp at hy; simp [minL, hy]⟩
  | x :: y :: ys, _ => by
    obtain ⟨h1, h2⟩ := minL_spec (xs := y :: ys) (by simp)
    show min x (minL (y :: ys)) ∈ _ ∧ ∀ z ∈ _, min x (minL (y :: ys)) ≤ z
    refine ⟨?_, fun z hz => ?_⟩
    · rcases Int.le_total x (minL (y :: ys)) with h | h
      · rw [Int.min_eq_left h]; exact List.mem_cons_self
      · rw [Int.min_eq_right h]; exact List.mem_cons_of_mem _ h1
    · rcases List.mem_cons.mp hz with e | hz
      · rw [e]; exact Int.min_le_left ..
      · exact Int.le_trans (Int.min_le_right ..) (h2 z hz)
/-- one argument that max, min, sum walk -/
def asSeq (S : Store) : D → Option (List D)
  | .tup xs => some xs
  | d => asQ S d
def max2D : List D → Store → Option (D × Store) := fun xs S => match xs with
  | [.int i, .int j] => some (.int (max i j), S)
  | [x] => (match asQ S x with
    | some ds => (match asInts ds with
      | some ns => if ns = [] then none else some (.int (maxL ns), S)
      | none => none)
    | none => none)
  | _ => none
def min2D : List D → Store → Option (D × Store) := fun xs S => match xs with
  | [.int i, .int j] => some (.int (min i j), S)
  | [.tup ds] => (match asInts ds with
    | some ns => if ns = [] then none else some (.int (minL ns), S)
    | none => none)
  | [x] => (match asQ S x with
    | some ds => (match asInts ds with
      | some ns => if ns = [] then none else some (.int (minL ns), S)
      | none => none)
    | none => none)
  | _ => none
def sumD : List D → Store → Option (D × Store) := fun xs S => match xs with
  | [x] => (match asQ S x with
    | some ds => (match asInts ds with
      | some ns => some (.int ns.sum, S)
      | none => none)
    | none => none)
  | _ => none
def allD : List D → Store → Option (D × Store) := fun xs S => match xs with
  | [x] => (match asQ S x with
    | some ds => (match asBls ds with
      | some ns => some (.bl (ns.all id), S)
      | none => none)
    | none => none)
  | _ => none
def anyD : List D → Store → Option (D × Store) := fun xs S => match xs with
  | [x] => (match asQ S x with
    | some ds => (match asBls ds with
      | some ns => some (.bl (ns.any id), S)
      | none => none)
    | none => none)
  | _ => none
def tupleD : List D → Store → Option (D × Store) := fun xs S => match xs with
  | [.tup ds] => some (.tup ds, S)
  | [x] => (match asQ S x with
    | some ds => some (.tup ds, S)
    | none => none)
  | _ => none
def listD (bx : Bool) : List D → Store → Option (D × Store) := fun xs S => match xs with
  | [x] => (match asSeq S x with
    | some ds => if bx = true then some (.ref S.length, S ++ [.lst ds]) else some (.lst ds, S)
    | none => none)
  | _ => none
section
variable {P : Program} {w : World} {K : PySem.W.Frag}
theorem ok_len : OkN P w K (fun xs H Q => ∃ x n, xs = [x] ∧ LenV K x H n ∧ Q (.int n) H) lenD := by
  intro B S H xs dxs d S' Q hs rx e k
  unfold lenD at e
  split at e
  · cases e
    obtain ⟨v, rfl, r⟩ := rx.one
    obtain ⟨a, us, rfl, ha, qa⟩ := r.tupI
    exact ⟨_, us.length, rfl, .inr ⟨us, ha, rfl⟩, by rw [qa.length]; exact k B _ H (Stp.refl ..) hs (.int _)⟩
  · split at e
    · rename_i hl
      cases e
      obtain ⟨v, rfl, r⟩ := rx.one
      cases r.strI
      exact ⟨_, _, rfl, ⟨hl, rfl⟩, k B _ H (Stp.refl ..) hs (.int _)⟩
    · cases e
  · split at e
    · rename_i ds ed
      cases e
      obtain ⟨v, rfl, r⟩ := rx.one
      obtain ⟨a, us, rfl, ha, qa⟩ := asQ_ok hs r ed
      exact ⟨_, us.length, rfl, .inl ⟨us, ha, rfl⟩, by rw [qa.length]; exact k B _ H (Stp.refl ..) hs (.int _)⟩
    · cases e
  · cases e
theorem ok_abs : OkN P w K (fun xs H Q => ∃ i, xs = [.int i] ∧ Q (.int (if i < 0 then -i else i)) H) absD := by
  intro B S H xs dxs d S' Q hs rx e k
  unfold absD at e
  split at e
  · cases e
    obtain ⟨v, rfl, r⟩ := rx.one
    cases r.intI
    exact ⟨_, rfl, k B _ H (Stp.refl ..) hs (.int _)⟩
  · cases e
theorem ok_int : OkN P w K (fun xs H Q => (∃ i, xs = [.int i] ∧ Q (.int i) H) ∨ ∃ k, xs = [.bl k] ∧ Q (.int (if k then 1 else 0)) H) intD := by
  intro B S H xs dxs d S' Q hs rx e k
  unfold intD at e
  split at e
  · cases e
    obtain ⟨v, rfl, r⟩ := rx.one
    cases r.intI
    exact .inl ⟨_, rfl, k B _ H (Stp.refl ..) hs (.int _)⟩
  · cases e
    obtain ⟨v, rfl, r⟩ := rx.one
    cases r.blI
    exact .inr ⟨_, rfl, k B _ H (Stp.refl ..) hs (.int _)⟩
  · cases e
theorem ok_str : OkN P w K (fun xs H Q => ∃ i, xs = [.int i] ∧ i.natAbs.log2 < 1920 ∧ Q (.str (toString i)) H) strD := by
  intro B S H xs dxs d S' Q hs rx e k
  unfold strD at e
  split at e
  · split at e
    · rename_i hl
      cases e
      obtain ⟨v, rfl, r⟩ := rx.one
      cases r.intI
      exact ⟨_, rfl, hl, k B _ H (Stp.refl ..) hs (.str _)⟩
    · cases e
  · cases e
theorem ok_max : OkN P w K (fun xs H Q => (∃ i j, xs = [.int i, .int j] ∧ Q (.int (if j > i then j else i)) H) ∨ rMax K xs H Q) max2D := by
  intro B S H xs dxs d S' Q hs rx e k
  unfold max2D at e
  split at e
  · cases e
    obtain ⟨v, u, rfl, r1, r2⟩ := rx.two
    cases r1.intI
    cases r2.intI
    refine .inl ⟨_, _, rfl, ?_⟩
    rename_i i j
    have e : (if j > i then j else i) = max i j := by split <;> omega
    rw [e]
    exact k B _ H (Stp.refl ..) hs (.int _)
  · split at e
    · rename_i ds ed
      split at e
      · rename_i ns en
        split at e
        · cases e
        · rename_i hne
          cases e
          obtain ⟨v, rfl, r⟩ := rx.one
          obtain ⟨a, us, rfl, ha, qa⟩ := asQ_ok hs r ed
          have eu := asInts_ok en qa
          subst eu
          refine .inr ⟨a, ns, rfl, ha, List.length_pos_iff.mpr hne, fun m h1 h2 => ?_⟩
          obtain ⟨g1, g2⟩ := maxL_spec hne
          have em : m = maxL ns := Int.le_antisymm (g2 m h1) (h2 _ g1)
          rw [em]
          exact k B _ H (Stp.refl ..) hs (.int _)
      · cases e
    · cases e
  · cases e
/-- min(t), t a tuple of ints -/
def rMinT (K : PySem.W.Frag) : List V → Hp → VK → Prop := fun vs H Q => ∃ (a : Addr) (ns : List Int), vs = [V.ref a] ∧ SqT K H a (ns.map V.int) ∧ ns ≠ [] ∧ Q (.int (minL ns)) H
theorem ok_min : OkN P w K (fun xs H Q => (∃ i j, xs = [.int i, .int j] ∧ Q (.int (if j < i then j else i)) H) ∨ rMinT K xs H Q ∨ rMin K xs H Q) min2D := by
  intro B S H xs dxs d S' Q hs rx e k
  unfold min2D at e
  split at e
  · cases e
    obtain ⟨v, u, rfl, r1, r2⟩ := rx.two
    cases r1.intI
    cases r2.intI
    refine .inl ⟨_, _, rfl, ?_⟩
    rename_i i j
    have e : (if j < i then j else i) = min i j := by split <;> omega
    rw [e]
    exact k B _ H (Stp.refl ..) hs (.int _)
  · split at e
    · rename_i ns en
      split at e
      · cases e
      · rename_i hne
        cases e
        obtain ⟨v, rfl, r⟩ := rx.one
        obtain ⟨a, us, rfl, ha, qa⟩ := r.tupI
        have eu := asInts_ok en qa
        subst eu
        exact .inr (.inl ⟨a, ns, rfl, ha, hne, k B _ H (Stp.refl ..) hs (.int _)⟩)
    · cases e
  · split at e
    · rename_i ds ed
      split at e
      · rename_i ns en
        split at e
        · cases e
        · rename_i hne
          cases e
          obtain ⟨v, rfl, r⟩ := rx.one
          obtain ⟨a, us, rfl, ha, qa⟩ := asQ_ok hs r ed
          have eu := asInts_ok en qa
          subst eu
          refine .inr (.inr ⟨a, ns, rfl, ha, List.length_pos_iff.mpr hne, fun m h1 h2 => ?_⟩)
          obtain ⟨g1, g2⟩ := minL_spec hne
          have em : m = minL ns := Int.le_antisymm (h2 _ g1) (g2 m h1)
          rw [em]
          exact k B _ H (Stp.refl ..) hs (.int _)
      · cases e
    · cases e
  · cases e
theorem ok_sum : OkN P w K (rSum K) sumD := by
  intro B S H xs dxs d S' Q hs rx e k
  unfold sumD at e
  split at e
  · split at e
    · rename_i ds ed
      split at e
      · rename_i ns en
        cases e
        obtain ⟨v, rfl, r⟩ := rx.one
        obtain ⟨a, us, rfl, ha, qa⟩ := asQ_ok hs r ed
        have eu := asInts_ok en qa
        subst eu
        exact ⟨a, ns, rfl, ha, k B _ H (Stp.refl ..) hs (.int _)⟩
      · cases e
    · cases e
  · cases e
theorem ok_all : OkN P w K (rAll K) allD := by
  intro B S H xs dxs d S' Q hs rx e k
  unfold allD at e
  split at e
  · split at e
    · rename_i ds ed
      split at e
      · rename_i ns en
        cases e
        obtain ⟨v, rfl, r⟩ := rx.one
        obtain ⟨a, us, rfl, ha, qa⟩ := asQ_ok hs r ed
        have eu := asBls_ok en qa
        subst eu
        exact ⟨a, ns, rfl, ha, k B _ H (Stp.refl ..) hs (.bl _)⟩
      · cases e
    · cases e
  · cases e
theorem ok_any : OkN P w K (rAny K) anyD := by
  intro B S H xs dxs d S' Q hs rx e k
  unfold anyD at e
  split at e
  · split at e
    · rename_i ds ed
      split at e
      · rename_i ns en
        cases e
        obtain ⟨v, rfl, r⟩ := rx.one
        obtain ⟨a, us, rfl, ha, qa⟩ := asQ_ok hs r ed
        have eu := asBls_ok en qa
        subst eu
        exact ⟨a, ns, rfl, ha, k B _ H (Stp.refl ..) hs (.bl _)⟩
      · cases e
    · cases e
  · cases e
theorem ok_tuple : OkN P w K (fun xs H Q => ∃ p ys, xs = [.ref p] ∧ ((SqL K H p ys ∧ ∀ l, H l = none → Q (.ref l) (upd H l (.tup ys))) ∨ (SqT K H p ys ∧ Q (.ref p) H))) tupleD := by
  intro B S H xs dxs d S' Q hs rx e k
  unfold tupleD at e
  split at e
  · cases e
    obtain ⟨v, rfl, r⟩ := rx.one
    obtain ⟨a, us, rfl, ha, qa⟩ := id r.tupI
    exact ⟨a, us, rfl, .inr ⟨ha, k B _ H (Stp.refl ..) hs r⟩⟩
  · split at e
    · rename_i ds ed
      cases e
      obtain ⟨v, rfl, r⟩ := rx.one
      obtain ⟨a, us, rfl, ha, qa⟩ := asQ_ok hs r ed
      exact ⟨a, us, rfl, .inl ⟨ha, fun l hl => k B _ _ (Stp.new hs hl) (hs.new hl) (RV.newTup hs hl qa)⟩⟩
    · cases e
  · cases e
theorem asSeq_ok {B : Wd} {S : Store} {H : Hp} {v : V} {d : D} {ds : List D} (hs : RS P w K B S H) (r : RV K B S H v d) (e : asSeq S d = some ds) : ∃ a xs, v = .ref a ∧ (SqL K H a xs ∨ SqT K H a xs) ∧ RVs K B S H xs ds := by
  unfold asSeq at e
  split at e
  · cases e
    obtain ⟨a, us, e1, ha, qa⟩ := r.tupI
    exact ⟨a, us, e1, .inr ha, qa⟩
  · obtain ⟨a, us, e1, ha, qa⟩ := asQ_ok hs r e
    exact ⟨a, us, e1, .inl ha, qa⟩
theorem ok_list {bx : Bool} : OkN P w K (fun xs H Q => ∃ p ys, xs = [.ref p] ∧ (SqL K H p ys ∨ SqT K H p ys) ∧ ∀ l, H l = none → Q (.ref l) (upd H l (.lst ys))) (listD bx) := by
  intro B S H xs dxs d S' Q hs rx e k
  unfold listD at e
  split at e
  · split at e
    · rename_i ds ed
      obtain ⟨v, rfl, r⟩ := rx.one
      obtain ⟨a, us, rfl, ha, qa⟩ := asSeq_ok hs r ed
      refine ⟨a, us, rfl, ha, fun l hl => ?_⟩
      split at e
      · cases e
        obtain ⟨h1, h2, h3⟩ := box_new hs qa hl
        exact k _ _ _ h1 h2 h3
      · cases e
        exact k B _ _ (Stp.new hs hl) (hs.new hl) (RV.newLst hs hl qa)
    · cases e
  · cases e
end
theorem minOf_minL : ∀ (xs : List Int) (x : Int), PySem.W.minOf x xs = minL (x :: xs)
  | [], x => rfl
  | y :: ys, x => by
    have ih := minOf_minL ys (if y < x then y else x)
    have e : PySem.W.minOf x (y :: ys) = PySem.W.minOf (if y < x then y else x) ys := by
      show List.foldl _ (if decide (y < x) = true then y else x) ys = List.foldl _ (if y < x then y else x) ys
      simp only [decide_eq_true_eq]
    rw [e, ih]
    cases ys with
    | nil =>
      show (if y < x then y else x) = min x y
      split <;> omega
    | cons z zs =>
      show min (if y < x then y else x) (minL (z :: zs)) = min x (min y (minL (z :: zs)))
      split <;> omega
section
variable {X : Cx}
theorem cr_minT (hc : X.calm = true) (hu : X.A.units + 64 < cLine) : CallR X (.builtin "min") (rMinT X.K) := by
  intro pins s σ H vs us Q I r h
  obtain ⟨a, ns, rfl, hs, hne, q⟩ := h
  obtain ⟨its, rv, ht, hz⟩ := I.tuple hs
  rw [Vals.ref1 r]
  cases ns with
  | nil => exact absurd rfl hne
  | cons n ns =>
    refine PySem.W.min_tuple_datum (α := Int) (x := n) (xs := ns) (I.ok.hd hc) ht (PySem.W.HoldAll.of_ints rv.ints) (by show X.A.units + 1 + 0 < _; omega) fun i v h' tk hv hh hk => ?_
    have hv' : its[i]? = some v := by simpa using hv
    obtain ⟨x, hx, rx⟩ : ∃ x, (List.map V.int (n :: ns))[i]? = some x ∧ RelV x v := by
      obtain ⟨hl, he⟩ := List.getElem?_eq_some_iff.mp hv'
      have hl2 : i < (List.map V.int (n :: ns)).length := by rw [rv.length]; exact hl
      obtain ⟨u, hu', ru⟩ := rv.get (List.getElem?_eq_getElem hl2)
      rw [hv'] at hu'; cases hu'
      exact ⟨_, List.getElem?_eq_getElem hl2, ru⟩
    rw [List.getElem?_map] at hx
    obtain ⟨j, _, rfl⟩ := Option.map_eq_some_iff.mp hx
    obtain ⟨t, rfl⟩ := rx
    obtain ⟨as, rd⟩ := hh
    have ej : j = PySem.W.minOf n ns := by
      cases rd
      rfl
    refine ⟨.int j, H, I.kept hk, ⟨t, rfl⟩, ?_⟩
    rw [ej, minOf_minL]
    exact q
end

/-! ### the calls -/
section
variable {X : Cx} {a : Expr} {es : List Expr} {p pos : Pos} {cs : DA}
theorem pd_len (hm : X.mg "len" = none) (ha : PDA X (a :: es) cs) (hg : Gl X "len" := by rfl) (he : starEach (a :: es) X.env = (false, eval a X.env) :: starEach es X.env := by rfl) (hpl : (backTo pos (starEach es X.env)).any (·.1) = false := by rfl) : PD X (.Call (.Name "len" p) (a :: es) [] pos) (cApp lenD cs) :=
  pd_callB call_len ok_len hg hm (by decide +kernel) (by decide) (by decide) ha he hpl
theorem pd_abs (hm : X.mg "abs" = none) (ha : PDA X (a :: es) cs) (hg : Gl X "abs" := by rfl) (he : starEach (a :: es) X.env = (false, eval a X.env) :: starEach es X.env := by rfl) (hpl : (backTo pos (starEach es X.env)).any (·.1) = false := by rfl) : PD X (.Call (.Name "abs" p) (a :: es) [] pos) (cApp absD cs) :=
  pd_callB call_abs ok_abs hg hm (by decide +kernel) (by decide) (by decide) ha he hpl
theorem pd_int' (hm : X.mg "int" = none) (ha : PDA X (a :: es) cs) (hg : Gl X "int" := by rfl) (he : starEach (a :: es) X.env = (false, eval a X.env) :: starEach es X.env := by rfl) (hpl : (backTo pos (starEach es X.env)).any (·.1) = false := by rfl) : PD X (.Call (.Name "int" p) (a :: es) [] pos) (cApp intD cs) :=
  pd_callTy call_int1 ok_int hg hm (by decide +kernel) (by decide) (by decide) ha he hpl
theorem pd_str' (hm : X.mg "str" = none) (ha : PDA X (a :: es) cs) (hg : Gl X "str" := by rfl) (he : starEach (a :: es) X.env = (false, eval a X.env) :: starEach es X.env := by rfl) (hpl : (backTo pos (starEach es X.env)).any (·.1) = false := by rfl) : PD X (.Call (.Name "str" p) (a :: es) [] pos) (cApp strD cs) :=
  pd_callTy call_str_int ok_str hg hm (by decide +kernel) (by decide) (by decide) ha he hpl
theorem pd_max (hc : X.calm = true) (hm : X.mg "max" = none) (ha : PDA X (a :: es) cs) (hg : Gl X "max" := by rfl) (he : starEach (a :: es) X.env = (false, eval a X.env) :: starEach es X.env := by rfl) (hpl : (backTo pos (starEach es X.env)).any (·.1) = false := by rfl) : PD X (.Call (.Name "max" p) (a :: es) [] pos) (cApp max2D cs) :=
  pd_callB ((call_max2 hc).or (cr_max hc)) ok_max hg hm (by decide +kernel) (by decide) (by decide) ha he hpl
theorem pd_min (hc : X.calm = true) (hu : X.A.units + 64 < cLine) (hm : X.mg "min" = none) (ha : PDA X (a :: es) cs) (hg : Gl X "min" := by rfl) (he : starEach (a :: es) X.env = (false, eval a X.env) :: starEach es X.env := by rfl) (hpl : (backTo pos (starEach es X.env)).any (·.1) = false := by rfl) : PD X (.Call (.Name "min" p) (a :: es) [] pos) (cApp min2D cs) :=
  pd_callB ((call_min2 hc).or ((cr_minT hc hu).or (cr_min hc))) ok_min hg hm (by decide +kernel) (by decide) (by decide) ha he hpl
theorem pd_sum (hc : X.calm = true) (hm : X.mg "sum" = none) (ha : PDA X (a :: es) cs) (hg : Gl X "sum" := by rfl) (he : starEach (a :: es) X.env = (false, eval a X.env) :: starEach es X.env := by rfl) (hpl : (backTo pos (starEach es X.env)).any (·.1) = false := by rfl) : PD X (.Call (.Name "sum" p) (a :: es) [] pos) (cApp sumD cs) :=
  pd_callB (cr_sum hc) ok_sum hg hm (by decide +kernel) (by decide) (by decide) ha he hpl
theorem pd_all (hc : X.calm = true) (hm : X.mg "all" = none) (ha : PDA X (a :: es) cs) (hg : Gl X "all" := by rfl) (he : starEach (a :: es) X.env = (false, eval a X.env) :: starEach es X.env := by rfl) (hpl : (backTo pos (starEach es X.env)).any (·.1) = false := by rfl) : PD X (.Call (.Name "all" p) (a :: es) [] pos) (cApp allD cs) :=
  pd_callB (cr_all hc) ok_all hg hm (by decide +kernel) (by decide) (by decide) ha he hpl
theorem pd_any (hc : X.calm = true) (hm : X.mg "any" = none) (ha : PDA X (a :: es) cs) (hg : Gl X "any" := by rfl) (he : starEach (a :: es) X.env = (false, eval a X.env) :: starEach es X.env := by rfl) (hpl : (backTo pos (starEach es X.env)).any (·.1) = false := by rfl) : PD X (.Call (.Name "any" p) (a :: es) [] pos) (cApp anyD cs) :=
  pd_callB (cr_any hc) ok_any hg hm (by decide +kernel) (by decide) (by decide) ha he hpl
theorem pd_tuple (hm : X.mg "tuple" = none) (ha : PDA X (a :: es) cs) (hg : Gl X "tuple" := by rfl) (he : starEach (a :: es) X.env = (false, eval a X.env) :: starEach es X.env := by rfl) (hpl : (backTo pos (starEach es X.env)).any (·.1) = false := by rfl) : PD X (.Call (.Name "tuple" p) (a :: es) [] pos) (cApp tupleD cs) :=
  pd_callTy call_tuple_of ok_tuple hg hm (by decide +kernel) (by decide) (by decide) ha he hpl
theorem pd_list {bx : Bool} (hm : X.mg "list" = none) (ha : PDA X (a :: es) cs) (hg : Gl X "list" := by rfl) (he : starEach (a :: es) X.env = (false, eval a X.env) :: starEach es X.env := by rfl) (hpl : (backTo pos (starEach es X.env)).any (·.1) = false := by rfl) : PD X (.Call (.Name "list" p) (a :: es) [] pos) (cApp (listD bx) cs) :=
  pd_callTy call_list_of ok_list hg hm (by decide +kernel) (by decide) (by decide) ha he hpl
end

/-! ### isinstance(x, T) -/
def tyD (S : Store) : D → Option String
  | .non => some "NoneType"
  | .bl _ => some "bool"
  | .int _ => some "int"
  | .str _ => some "str"
  | .tup _ => some "tuple"
  | .lst _ => some "list"
  | .scr _ => none
  | .ref k => (match S[k]? with
    | some (.lst _) => some "list"
    | some (.dK false _) => some "dict"
    | _ => none)
def isiD (T : String) : D → Store → Option (D × Store) := fun x S => match tyD S x with
  | some t => (match kitB t T with
    | some b => some (.bl b, S)
    | none => none)
  | none => none
theorem SqT.none_at {K : PySem.W.Frag} {a : Addr} {xs : List V} (h : ∀ H', SqT K H' a xs) : ∃ o, K.lookup a = some o ∧ o.cls = .type "tuple" := by
  rcases h (fun _ => none) with (q | ⟨o, q⟩) | ⟨o, its, n, h1, h2, _⟩
  · cases q
  · cases q
  · exact ⟨o, h1, h2⟩
theorem tyD_ok {P : Program} {w : World} {K : PySem.W.Frag} {B : Wd} {S : Store} {H : Hp} {v : V} {d : D} {t : String} (hs : RS P w K B S H) (r : RV K B S H v d) (e : tyD S d = some t) : TyX K H v (.type t) := by
  unfold tyD at e
  cases r with
  | non => cases e; exact .base .non
  | bl b => cases e; exact .base (.bl b)
  | int i => cases e; exact .base (.int i)
  | str x => cases e; exact .base (.str x)
  | tup h n q => cases e; exact .base (.tup h)
  | tupK h q =>
    cases e
    obtain ⟨o, h1, h2⟩ := SqT.none_at h
    exact .kTuple h1 h2
  | lst h n q => cases e; exact .base (.lst h)
  | lstF h n q => cases e
  | lstK h q => cases e
  | ref lt =>
    simp only at e
    split at e
    · rename_i xs hx
      cases e
      obtain ⟨us, h, _⟩ := hs.cel _ _ hx
      exact .base (.lst h)
    · rename_i kvs hx
      cases e
      obtain ⟨kxs, _, h⟩ := hs.cel _ _ hx
      exact .base (.dK (by simpa using h))
    · cases e
theorem pd_isi {X : Cx} {a : Expr} {ca : DE} {T : Str} {t : String} {p p2 pos : Pos} (hm : X.mg "isinstance" = none) (ha : PD X a ca) (hT : X.mg T = none) (hb : bootBuiltins T = some (.type t)) (hn : T ≠ "__name__" := by decide) (hdd : (T == ("__debug__" : Str)) = false := by decide)
    (hgT : Gl X T := by rfl) (hg : Gl X "isinstance" := by rfl) (hs1 : starEach (a :: [.Name T p2]) X.env = (false, eval a X.env) :: starEach [.Name T p2] X.env := by rfl) (hs2 : starEach ((.Name T p2) :: []) X.env = (false, eval (.Name T p2) X.env) :: starEach [] X.env := by rfl)
    (hpl : (backTo pos (starEach [.Name T p2] X.env)).any (·.1) = false := by rfl) : PD X (.Call (.Name "isinstance" p) [a, .Name T p2] [] pos) (cUn (isiD t) ca) :=
  pe_imp (pe_callB call_isi hg hm (by decide +kernel) (pa_cons ha (pa_cons (pe_bltn (v := .ty t) hgT hT hb rfl hn hdd) pa_nil hs2) hs1) (by decide) (by decide) hs1 hpl) fun σ H Q h =>
    tD_un (R := fun x H1 => rIsi X.K [x, .ty t] H1 Q) h fun B S H x dx d S' hs rx e k => by
      unfold isiD at e
      split at e
      · rename_i u eu
        split at e
        · rename_i b eb
          cases e
          exact ⟨x, .ty t, .type u, .type t, b, rfl, .ty t, tyD_ok hs rx eu, kit_ty eb, k B _ H (Stp.refl ..) hs (.bl _)⟩
        · cases e
      · cases e
end DL

/-! What loops walk; comprehensions. -/
namespace DL
open PySem PySem.Spec PyProof.Rows L2

/-! ### enumerate of a tuple -/
def IteT (K : PySem.W.Frag) (a : Addr) : It :=
  ⟨fun i H => ∃ (xs : List V) (x : V), SqT K H a xs ∧ xs[i]? = some x, fun i H v H' => ∃ T x, v = .ref T ∧ H T = none ∧ H' = upd H T (.tup [.int (i : Nat), x]) ∧ ∀ xs, SqT K H a xs → xs[i]? = some x, fun i H => ∃ xs : List V, SqT K H a xs ∧ xs.length ≤ i⟩
section
variable {prog : Program} {w : World} {A : Around} {s : Shared} {E : Value → Shared → Prop}
end

/-! ### a walked list or tuple -/
/-- a walk over a list or a tuple, whichever it is -/
def iSeq (K : PySem.W.Frag) (tl : TE) : TI := fun σ H R => tl σ H fun x H1 => ∃ a, x = .ref a ∧ (((∃ xs, SqL K H1 a xs) ∧ R (Itl K a) H1) ∨ ((∃ xs, SqT K H1 a xs) ∧ R (Itt K a) H1))
theorem pi_seq {X : Cx} {tg l : Expr} {tl : TE} (hl : PE X l tl) : PI X tg l (iSeq X.K tl) := by
  refine ⟨fun pins s σ H R I h => ?_⟩
  refine thn (hl.run pins s σ H _ I h) fun v s1 ⟨x, H1, I1, r1, q1⟩ => ?_
  obtain ⟨a, e, q⟩ := q1
  subst e
  cases r1
  rcases q with ⟨⟨xs, hq⟩, q⟩ | ⟨⟨xs, hq⟩, q⟩
  · obtain ⟨its, rv, p, hz⟩ := I1.list hq
    refine wpAny_pyIter_list p.isList ?_
    refine ⟨s1.heap.objs.size, [s1.heap.objs.size], _, _, H1, rfl, I1.kept (t' := s1.toks) fun b o e => Heap.get?_push_of_some _ e, turn_list a _, ⟨_, Heap.get?_push_size _ rfl, rfl, rfl⟩, fun b hb => ?_, q⟩
    have e : b = s1.heap.objs.size := by simpa using hb
    subst e
    exact I1.fpOk (Nat.le_refl _) (I1.hok.fresh (Nat.le_refl _))
  · obtain ⟨its, rv, p, hz⟩ := I1.tuple hq
    refine wpAny_pyIter_tuple (show s1.heap.IsTuple a its.toArray from p) ?_
    refine ⟨s1.heap.objs.size, [s1.heap.objs.size], _, _, H1, rfl, I1.kept (t' := s1.toks) fun b o e => Heap.get?_push_of_some _ e, turn_tuple a _, ⟨_, Heap.get?_push_size _ rfl, rfl, rfl⟩, fun b hb => ?_, q⟩
    have e : b = s1.heap.objs.size := by simpa using hb
    subst e
    exact I1.fpOk (Nat.le_refl _) (I1.hok.fresh (Nat.le_refl _))
/-- the items of a list, of a tuple; a cell's list is looked at again each turn -/
def itSeq (S : Store) : D → Option Itm
  | .tup xs => some (xs, none)
  | .lst xs => some (xs, none)
  | .scr xs => some (xs, none)
  | .ref k => (match S[k]? with
    | some (.lst xs) => some (xs, some k)
    | _ => none)
  | _ => none
def cItS (c : DE) : DI := fun ρ S => match c ρ S with
  | some (d, S') => (itSeq S' d).map fun m => (m, S')
  | none => none
section
variable {P : Program} {w : World} {K : PySem.W.Frag} {B : Wd} {S : Store} {H : Hp}
theorem SqL.inj {a : Addr} {xs ys : List V} (h : Rd H a (.lst xs)) (h' : Rd H a (.lst ys)) : xs = ys := by
  rcases h with h | ⟨o, h⟩ <;> rcases h' with h' | ⟨o', h'⟩ <;> rw [h] at h' <;> cases h' <;> rfl
/-- a list that may be read at each later state -/
theorem wlk_list {a : Addr} {ds : List D} {l : Option Nat} (h : ∀ B' S' H', St0 B S H B' S' H' → RS P w K B' S' H' → liveOk l ds S' → ∃ xs, SqL K H' a xs ∧ RVs K B' S' H' xs ds) : Wlk P w K B S H (Itl K a) (ds, l) := by
  intro B' S' H' st hs lv i
  obtain ⟨xs, hx, rx⟩ := h B' S' H' st hs lv
  refine ⟨fun d hd => ?_, fun e => ⟨xs, hx, by rw [rx.length, e]; exact Nat.le_refl _⟩⟩
  obtain ⟨v, hv, rv⟩ := rx.get hd
  refine ⟨⟨xs, v, hx, hv⟩, fun x H'' y => ?_⟩
  obtain ⟨e, y⟩ := y
  subst e
  have := y xs hx
  rw [hv] at this
  cases this
  exact ⟨Stp.refl .., hs, rv⟩
theorem wlk_tup {a : Addr} {ds : List D} {l : Option Nat} (h : ∀ B' S' H', St0 B S H B' S' H' → RS P w K B' S' H' → ∃ xs, SqT K H' a xs ∧ RVs K B' S' H' xs ds) : Wlk P w K B S H (Itt K a) (ds, l) := by
  intro B' S' H' st hs lv i
  obtain ⟨xs, hx, rx⟩ := h B' S' H' st hs
  refine ⟨fun d hd => ?_, fun e => ⟨xs, hx, by rw [rx.length, e]; exact Nat.le_refl _⟩⟩
  obtain ⟨v, hv, rv⟩ := rx.get hd
  refine ⟨⟨xs, v, hx, hv⟩, fun x H'' y => ?_⟩
  obtain ⟨e, y⟩ := y
  subst e
  have := y xs hx
  rw [hv] at this
  cases this
  exact ⟨Stp.refl .., hs, rv⟩
theorem later_tup {a : Addr} {ds : List D} (r : RV K B S H (.ref a) (.tup ds)) : ∀ B' S' H', St0 B S H B' S' H' → RS P w K B' S' H' → ∃ xs, SqT K H' a xs ∧ RVs K B' S' H' xs ds := fun B' S' H' st hs => by
  obtain ⟨b, xs, e, h1, h2⟩ := (RV.mono0 st _ _ r).tupI
  cases e
  exact ⟨xs, h1, h2⟩
theorem later_lst {a : Addr} {d : D} {ds : List D} {l : Option Nat} (r : RV K B S H (.ref a) d) (e : itSeq S d = some (ds, l)) (hd : ∀ xs, d ≠ .tup xs) : ∀ B' S' H', St0 B S H B' S' H' → RS P w K B' S' H' → liveOk l ds S' → ∃ xs, SqL K H' a xs ∧ RVs K B' S' H' xs ds := fun B' S' H' st hs lv => by
  have r' := RV.mono0 st _ _ r
  unfold itSeq at e
  split at e
  · exact absurd rfl (hd _)
  · cases e
    cases r' with
    | lst h n q => exact ⟨_, SqL.of h, q⟩
  · cases e
    cases r' with
    | lstF h n q => exact ⟨_, .inl (.inr ⟨_, h⟩), q⟩
    | lstK h q => exact ⟨_, h H', q⟩
  · split at e
    · rename_i xs hk
      cases e
      have lv' := lv
      unfold liveOk at lv'
      simp only at lv'
      obtain ⟨us, h, q⟩ := hs.cel _ _ lv'
      generalize ev : (V.ref a) = v at r'
      cases r' with
      | ref lt =>
        cases ev
        exact ⟨us, SqL.of h, q⟩
    · cases e
  · cases e
end
theorem pdi_seq {X : Cx} {tg e : Expr} {c : DE} (h : PD X e c) : PDI X tg e (cItS c) := pi_imp (pi_seq h) fun σ H R ⟨B, ρ, S, m, S', hs, he, e, k⟩ => by
  unfold cItS at e
  split at e
  · rename_i d S1 e1
    obtain ⟨m', e2, e3⟩ := Option.map_eq_some_iff.mp e
    cases e3
    refine ⟨B, ρ, S, d, _, hs, he, e1, fun B' v H' st hs' r => ?_⟩
    obtain ⟨ds, l⟩ := m
    by_cases ht : ∃ xs, d = .tup xs
    · obtain ⟨xs, rfl⟩ := ht
      cases e2
      obtain ⟨a, us, rfl, ha, _⟩ := r.tupI
      exact ⟨a, rfl, .inr ⟨⟨us, ha⟩, k B' _ H' st hs' (wlk_tup (later_tup r))⟩⟩
    · have hd : ∀ xs, d ≠ .tup xs := fun xs z => ht ⟨xs, z⟩
      obtain ⟨a, rfl⟩ : ∃ a, v = .ref a := by
        unfold itSeq at e2
        split at e2 <;> first
          | (cases r <;> exact ⟨_, rfl⟩)
          | (cases e2)
      have lv : liveOk l ds S' := by
        unfold itSeq at e2
        split at e2
        · exact absurd rfl (hd _)
        · cases e2; trivial
        · cases e2; trivial
        · split at e2
          · rename_i hk
            cases e2
            exact hk
          · cases e2
        · cases e2
      obtain ⟨us, hu, _⟩ := later_lst (P := X.prog) (w := X.w) r e2 hd B' S' H' (St0.refl ..) hs' lv
      exact ⟨a, rfl, .inl ⟨⟨us, hu⟩, k B' _ H' st hs' (wlk_list (later_lst r e2 hd))⟩⟩
  · cases e

/-! ### range -/
def itRange (lo : Int) (n : Nat) : Itm := ((List.range n).map fun i => D.int (lo + (i : Nat)), none)
def inR1 (j : Int) : Prop := -(2 ^ 62) ≤ j ∧ j < 2 ^ 62
def inR2 (i j : Int) : Prop := -(2 ^ 62) ≤ i ∧ i < 2 ^ 62 ∧ -(2 ^ 62) ≤ j ∧ j < 2 ^ 62
open Classical in
noncomputable def cRng1 (a : DE) : DI := fun ρ S => match a ρ S with
  | some (.int j, S') => if inR1 j then some (itRange 0 j.toNat, S') else none
  | _ => none
open Classical in
noncomputable def cRng2 (a b : DE) : DI := fun ρ S => match a ρ S with
  | some (.int i, S1) => (match b ρ S1 with
    | some (.int j, S') => if inR2 i j then some (itRange i (j - i).toNat, S') else none
    | _ => none)
  | _ => none
theorem wlk_range {P : Program} {w : World} {K : PySem.W.Frag} {B : Wd} {S : Store} {H : Hp} {lo : Int} {n : Nat} : Wlk P w K B S H (Itr lo n) (itRange lo n) := by
  intro B' S' H' st hs lv i
  have el : (itRange lo n).1.length = n := by simp [itRange]
  refine ⟨fun d hd => ?_, fun e => by rw [el] at e; exact Nat.le_of_eq e.symm⟩
  have hi : i < n := by
    have := (List.getElem?_eq_some_iff.mp hd).1
    rw [el] at this
    exact this
  have ed : d = .int (lo + (i : Nat)) := by
    have : (itRange lo n).1[i]? = some (.int (lo + (i : Nat))) := by simp [itRange, hi]
    rw [this] at hd
    exact (Option.some.inj hd).symm
  subst ed
  refine ⟨hi, fun x H'' y => ?_⟩
  obtain ⟨e, y⟩ := y
  subst e y
  exact ⟨Stp.refl .., hs, .int _⟩
theorem pdi_range1 {X : Cx} {tg a : Expr} {c : DE} {p pos : Pos} (hm : X.mg "range" = none) (h : PD X a c) (hg : Gl X "range" := by rfl) (hs : starEach [a] X.env = (false, eval a X.env) :: starEach [] X.env := by rfl) (hs1 : starEach [a] X.env = [(false, eval a X.env)] := by rfl) : PDI X tg (.Call (.Name "range" p) [a] [] pos) (cRng1 c) :=
  pi_imp (pi_range1 hg hm (pa_cons h pa_nil hs) hs1) fun σ H R ⟨B, ρ, S, m, S', hs, he, e, k⟩ => by
    unfold cRng1 at e
    split at e
    · rename_i j S1 e1
      split at e
      · rename_i hj
        have hj : _ ∧ _ := hj
        cases e
        exact ⟨B, ρ, S, _, _, hs, he, e1, fun B' v H' st hs' r => ⟨j, by rw [r.intI], hj.1, hj.2, k B' _ H' st hs' wlk_range⟩⟩
      · cases e
    · cases e
theorem pdi_range2 {X : Cx} {tg a b : Expr} {c c' : DE} {p pos : Pos} (hm : X.mg "range" = none) (h : PD X a c) (h' : PD X b c') (hg : Gl X "range" := by rfl) (hs : starEach [a, b] X.env = (false, eval a X.env) :: starEach [b] X.env := by rfl) (hs2 : starEach [b] X.env = (false, eval b X.env) :: starEach [] X.env := by rfl)
    (hs3 : starEach [a, b] X.env = [(false, eval a X.env), (false, eval b X.env)] := by rfl) (hs4 : starEach [b] X.env = [(false, eval b X.env)] := by rfl) : PDI X tg (.Call (.Name "range" p) [a, b] [] pos) (cRng2 c c') :=
  pi_imp (pi_range2 hg hm (pa_cons h (pa_cons h' pa_nil hs2) hs) hs3 hs4) fun σ H R ⟨B, ρ, S, m, S', hs, he, e, k⟩ => by
    unfold cRng2 at e
    split at e
    · rename_i i S1 e1
      split at e
      · rename_i j S2 e2
        split at e
        · rename_i hj
          cases e
          exact ⟨B, ρ, S, _, _, hs, he, e1, fun B1 v1 H1 st1 hs1 r1 => ⟨B1, ρ, S1, _, _, hs1, he.mono st1, e2, fun B2 v2 H2 st2 hs2 r2 => ⟨i, j, by rw [r1.intI, r2.intI], hj, k B2 _ H2 (st1.trans st2) hs2 wlk_range⟩⟩⟩
        · cases e
      · cases e
    · cases e

/-! ### zip of two lists, of two tuples -/
def itZip (x y : D) : Option Itm := match x, y with
  | .tup xs, .tup ys => some ((xs.zip ys).map fun p => .tup [p.1, p.2], none)
  | .lst xs, .lst ys => some ((xs.zip ys).map fun p => .tup [p.1, p.2], none)
  | _, _ => none
def cZip (a b : DE) : DI := fun ρ S => match a ρ S with
  | some (x, S1) => (match b ρ S1 with
    | some (y, S2) => (itZip x y).map fun m => (m, S2)
    | none => none)
  | none => none
section
variable {P : Program} {w : World} {K : PySem.W.Frag} {B : Wd} {S : Store} {H : Hp}
theorem zip_at {xs ys : List D} {i : Nat} {d : D} (h : ((xs.zip ys).map fun p => D.tup [p.1, p.2])[i]? = some d) : ∃ x y, xs[i]? = some x ∧ ys[i]? = some y ∧ d = .tup [x, y] := by
  rw [List.getElem?_map] at h
  obtain ⟨p, hp, rfl⟩ := Option.map_eq_some_iff.mp h
  obtain ⟨h1, h2⟩ := List.getElem?_zip_eq_some.mp hp
  exact ⟨p.1, p.2, h1, h2, rfl⟩
theorem wlk_zipT {a b : Addr} {xs ys : List D} (ha : ∀ B' S' H', St0 B S H B' S' H' → RS P w K B' S' H' → ∃ us, SqT K H' a us ∧ RVs K B' S' H' us xs) (hb : ∀ B' S' H', St0 B S H B' S' H' → RS P w K B' S' H' → ∃ us, SqT K H' b us ∧ RVs K B' S' H' us ys) :
    Wlk P w K B S H (RZ.ItzT K a b) ((xs.zip ys).map fun p => .tup [p.1, p.2], none) := by
  intro B' S' H' st hs lv i
  obtain ⟨us, hu, ru⟩ := ha B' S' H' st hs
  obtain ⟨vs, hv, rv⟩ := hb B' S' H' st hs
  refine ⟨fun d hd => ?_, fun e => ⟨us, vs, hu, hv, ?_⟩⟩
  · obtain ⟨x, y, hx, hy, rfl⟩ := zip_at hd
    obtain ⟨u, hux, rux⟩ := ru.get hx
    obtain ⟨v, hvy, rvy⟩ := rv.get hy
    refine ⟨⟨us, vs, u, v, hu, hv, hux, hvy⟩, fun z H'' y' => ?_⟩
    obtain ⟨T, p, q, rfl, hT, rfl, g1, g2⟩ := y'
    have e1 := g1 us hu
    have e2 := g2 vs hv
    rw [hux] at e1; cases e1
    rw [hvy] at e2; cases e2
    exact ⟨Stp.new hs hT, hs.new hT, RV.newTup hs hT (.cons rux (.cons rvy .nil))⟩
  · rw [e]
    rw [List.length_map, List.length_zip, ru.length, rv.length]
    omega
theorem wlk_zipL {a b : Addr} {xs ys : List D} (ha : ∀ B' S' H', St0 B S H B' S' H' → RS P w K B' S' H' → ∃ us, SqL K H' a us ∧ RVs K B' S' H' us xs) (hb : ∀ B' S' H', St0 B S H B' S' H' → RS P w K B' S' H' → ∃ us, SqL K H' b us ∧ RVs K B' S' H' us ys) :
    Wlk P w K B S H (Itz K a b) ((xs.zip ys).map fun p => .tup [p.1, p.2], none) := by
  intro B' S' H' st hs lv i
  obtain ⟨us, hu, ru⟩ := ha B' S' H' st hs
  obtain ⟨vs, hv, rv⟩ := hb B' S' H' st hs
  refine ⟨fun d hd => ?_, fun e => ⟨us, vs, hu, hv, ?_⟩⟩
  · obtain ⟨x, y, hx, hy, rfl⟩ := zip_at hd
    obtain ⟨u, hux, rux⟩ := ru.get hx
    obtain ⟨v, hvy, rvy⟩ := rv.get hy
    refine ⟨⟨us, vs, u, v, hu, hv, hux, hvy⟩, fun z H'' y' => ?_⟩
    obtain ⟨T, p, q, rfl, hT, rfl, g1, g2⟩ := y'
    have e1 := g1 us hu
    have e2 := g2 vs hv
    rw [hux] at e1; cases e1
    rw [hvy] at e2; cases e2
    exact ⟨Stp.new hs hT, hs.new hT, RV.newTup hs hT (.cons rux (.cons rvy .nil))⟩
  · rw [e]
    rw [List.length_map, List.length_zip, ru.length, rv.length]
    omega
theorem later_l {a : Addr} {ds : List D} (r : RV K B S H (.ref a) (.lst ds)) : ∀ B' S' H', St0 B S H B' S' H' → RS P w K B' S' H' → ∃ xs, SqL K H' a xs ∧ RVs K B' S' H' xs ds := fun B' S' H' st hs => by
  cases RV.mono0 st _ _ r with
  | lst h n q => exact ⟨_, SqL.of h, q⟩
end
theorem pdi_zip {X : Cx} {a b : Expr} {c c' : DE} {p pos tpos : Pos} {elts : List Expr} {kk : Nat} (hm : X.mg "zip" = none) (h : PD X a c) (h' : PD X b c') (hg : Gl X "zip" := by rfl) (hs : starEach [a, b] X.env = (false, eval a X.env) :: starEach [b] X.env := by rfl) (hs2 : starEach [b] X.env = (false, eval b X.env) :: starEach [] X.env := by rfl)
    (hpl : (backTo pos (starEach [b] X.env)).any (·.1) = false := by rfl) : PDI X (.Tuple elts kk tpos) (.Call (.Name "zip" p) [a, b] [] pos) (cZip c c') :=
  pi_imp (RZ.pi_zipA hg hm (pa_cons h (pa_cons h' pa_nil hs2) hs) hs hpl) fun σ H R ⟨B, ρ, S, m, S', hs, he, e, k⟩ => by
    unfold cZip at e
    split at e
    · rename_i x S1 e1
      split at e
      · rename_i y S2 e2
        obtain ⟨m', e3, e4⟩ := Option.map_eq_some_iff.mp e
        cases e4
        refine ⟨B, ρ, S, _, _, hs, he, e1, fun B1 v1 H1 st1 hs1 r1 => ⟨B1, ρ, S1, _, _, hs1, he.mono st1, e2, fun B2 v2 H2 st2 hs2 r2 => ?_⟩⟩
        have r1' := RV.mono st2 _ _ r1
        have st := st1.trans st2
        unfold itZip at e3
        split at e3
        · cases e3
          obtain ⟨p1, us, rfl, hu, ru⟩ := r1'.tupI
          obtain ⟨p2, vs, rfl, hv, rv⟩ := r2.tupI
          exact ⟨p1, p2, us, vs, rfl, .inr ⟨hu, hv, k B2 _ H2 st hs2 (wlk_zipT (later_tup r1') (later_tup r2))⟩⟩
        · cases e3
          cases id r1' with
          | lst h1 n1 q1 =>
            cases id r2 with
            | lst h2 n2 q2 => exact ⟨_, _, _, _, rfl, .inl ⟨SqL.of h1, SqL.of h2, k B2 _ H2 st hs2 (wlk_zipL (later_l r1') (later_l r2))⟩⟩
        · cases e3
      · cases e
    · cases e
end DL

/-! enumerate of a tuple. -/
namespace DL
open PySem PySem.Spec PyProof.Rows L2
open AutoSeq1 (wpAny_loadPart')
theorem meets_enumerate_newT (l : Addr) (items : Array Value) (n : Nat) (dct : Option Addr) (sl : Array (Option Value)) :
    Meets (Builtin.«enumerate.__new__» ⟨[.type "enumerate", .ref l], []⟩) (fun _ R s => s.heap.get? l = some { cls := .type "tuple", dict := dct, data := .seq items n, slots := sl } ∧
      R (.ok (.ret (.ref (s.heap.push { cls := .type "tuple_iterator", data := .fields #[.ref l, .int 0 0] }).objs.size)))
        { s with heap := (s.heap.push { cls := .type "tuple_iterator", data := .fields #[.ref l, .int 0 0] }).push { cls := .type "enumerate", data := .fields #[.none, .bool false, .ref s.heap.objs.size, rawInt 0, .none, .none] } }) :=
  .of_wp fun prog w A R s h => by
    obtain ⟨hp, g, d, tk, os⟩ := s; obtain ⟨hl, h⟩ := h
    have hsub := sub_enumerate
    have hL : Heap.IsTuple (Shared.heap ⟨hp, g, d, tk, os⟩) l items := ⟨_, hl, rfl, n, rfl⟩
    wp_walk using wpAny_loadPart' hl
    refine wpAny_stack_any fun st => wpAny_pure ?_
    split
    · rename_i c _ _ _ _ _
      cases (c == Value.type "enumerate")
      · wp_walk using wpAny_loadPart' hl, wpAny_pyIter_tuple hL
        exact ⟨_, rfl, h⟩
      · wp_walk using wpAny_loadPart' hl, wpAny_pyIter_tuple hL
        exact ⟨_, rfl, h⟩
    · wp_walk using wpAny_loadPart' hl, wpAny_pyIter_tuple hL
      exact ⟨_, rfl, h⟩
section
variable {prog : Program} {w : World} {A : Around} {E : Value → Shared → Prop} {s : Shared}
theorem call_enumerate_tuple {l : Addr} {items : Array Value} {Q : Value → Shared → Prop} (hL : s.heap.IsTuple l items)
    (h : ∀ h', IsEnum h' (s.heap.objs.size + 1) s.heap.objs.size 0 .none → h'.IsTupleIter s.heap.objs.size l 0 → h'.objs.size = s.heap.objs.size + 2 →
      (∀ b o, s.heap.get? b = some o → h'.get? b = some o) → Q (.ref (s.heap.objs.size + 1)) { s with heap := h' }) :
    wpAny (model prog w) A (call (.type "enumerate") [.ref l]) Q E s := by
  obtain ⟨⟨c, dct, dt, sl⟩, hl, hc, n, hd⟩ := hL
  replace hc : c = .type "tuple" := hc
  replace hd : dt = .seq items n := hd
  subst hc hd
  refine callType_new F.called_enumerate (by decide) (F.typeCall_enumerate_1 _) (F.newCall_enumerate_1 _) (fun obj => F.args_object_init_2 obj _) F.entry_enumerate_new
    (meets_enumerate_newT l items n dct sl) ⟨hl, ?_⟩
  have hz : (s.heap.push { cls := .type "tuple_iterator", data := .fields #[.ref l, .int 0 0] }).objs.size = s.heap.objs.size + 1 := Heap.size_push ..
  show _ ∧ _
  rw [hz]
  have he : IsEnum ((s.heap.push { cls := .type "tuple_iterator", data := .fields #[.ref l, .int 0 0] }).push
      { cls := .type "enumerate", data := .fields #[.none, .bool false, .ref s.heap.objs.size, rawInt 0, .none, .none] }) (s.heap.objs.size + 1) s.heap.objs.size 0 .none := by
    have := Heap.get?_push_size (s.heap.push { cls := .type "tuple_iterator", data := .fields #[.ref l, .int 0 0] })
      (o := { cls := .type "enumerate", data := .fields #[.none, .bool false, .ref s.heap.objs.size, rawInt 0, .none, .none] }) rfl
    rw [hz] at this; exact this
  refine ⟨⟨_, he, rfl⟩, h _ he ⟨_, Heap.get?_push_of_some _ (Heap.get?_push_size _ rfl), rfl, rfl⟩ (by rw [Heap.size_push, hz]) fun b o x => Heap.get?_push_of_some _ (Heap.get?_push_of_some _ x)⟩
end
section
variable {prog : Program} {w : World} {A : Around} {E : Value → Shared → Prop} {s : Shared}
theorem wpAny_pyNext_enum_endT {e it l : Addr} {i : Nat} {items : Array Value} {old : Value} {Q : Option Value → Shared → Prop} (hh : A.handled = none)
    (he : IsEnum s.heap e it i old) (hit : s.heap.IsTupleIter it l i) (hl : s.heap.IsTuple l items) (hx : items[i]? = none)
    (hQ : ∀ h', Heap.ExtBut it s.heap h' → Q none { s with heap := h' }) : wpAny (model prog w) A (pyNext (.ref e)) Q E s := by
  have hT : s.TypeIs (.ref e) "enumerate" := ⟨_, he, rfl⟩
  unfold pyNext
  refine wpAny_bind (wpAny_attempt (wpAny_callSpecial?_slot (name := Str.ofString "__next__") hT F.slot_enumerate_next
    (wpAny_call_entry F.slot_enumerate_next hT F.entry_enumerate_next ?_ (F.args_enumerate_next_1 _))))
  show wpAny _ _ (field (.ref e) 2 >>= _) _ _ _
  refine wpAny_bind (wpAny_field he rfl (x := .ref it) rfl ?_)
  refine wpAny_bind (wpAny_nextOf_tuple_end hh hit hl hx fun h' x he' hx' => ?_)
  obtain ⟨o, ho, hc⟩ := hx'
  refine wpAny_bind (wpAny_isInstance (T := "StopIteration") (b := true) ⟨o, ho, hc⟩ isSubtype_stop ?_)
  exact wpAny_pure (hQ _ he')
end
theorem turn_enumT {P : Program} {w : World} {K : PySem.W.Frag} {elts : List Expr} {kk : Nat} {tpos : Pos} (a e it : Addr) (hai : a ≠ it) :
    Turn P w K (.Tuple elts kk tpos) (IteT K a) [e, it] e (fun i h => (∃ old, IsEnum h e it ((i : Nat) : Int) old) ∧ h.IsTupleIter it a i ∧ e ≠ it) where
  mem := by simp
  obj := fun i h st b hb => by
    obtain ⟨⟨old, he⟩, ⟨o, ho, hc, hd⟩, _⟩ := st
    have e' : b = e ∨ b = it := by simpa using hb
    rcases e' with z | z
    · rw [z]; exact ⟨_, he, fun v q => nomatch q⟩
    · rw [z]; exact ⟨o, ho, fun v q => by rw [hd] at q; cases q⟩
  keep := fun i h h' st k => let ⟨⟨old, he⟩, hi, hne⟩ := st; ⟨⟨old, k e (by simp) _ he⟩, hi.at fun o q => k it (by simp) o q, hne⟩
  item := by
    intro X hP hw hK hc i pins s σ H E I hf st hg
    subst hP hw hK
    obtain ⟨⟨old, he⟩, hit, hne⟩ := st
    obtain ⟨xs, x, hq, hx⟩ := hg
    obtain ⟨its, rv, p, hz⟩ := I.tuple hq
    obtain ⟨u, hu, ru⟩ := rv.get hx
    have hel : e < s.heap.objs.size := Heap.lt_size he
    have hil : it < s.heap.objs.size := by obtain ⟨_, q, _⟩ := hit; exact Heap.lt_size q
    have hlt : i < its.toArray.size := by
      have := (List.getElem?_eq_some_iff.mp hu).1
      simpa using this
    have hae : a ≠ e := by
      intro z
      subst z
      obtain ⟨o, ho, hcl, _⟩ := p
      have ho' : s.heap.get? a = some o := ho
      rw [he] at ho'
      cases ho'
      have hcl' : Value.type "enumerate" = Value.type "tuple" := hcl
      injection hcl' with hcl'
      exact absurd hcl' (by decide)
    refine wpAny_pyNext_enum_itemD (Draws.tuple (A := X.A.in1) (I.ok.hd hc) it a hai its.toArray) he ⟨hit, p⟩ hlt hne (by simp only [List.mem_cons, List.not_mem_nil, or_false, not_or]; exact ⟨hne, fun z => hae z.symm⟩) fun u' h' tk hu' ho hst hT hsz hk => ?_
    have hit' := hst.1
    have eu : u' = u := by
      have h1 : its[i]? = some u' := by simpa using hu'
      rw [hu] at h1
      exact (Option.some.inj h1).symm
    subst eu
    refine ⟨_, rfl, wpAny_letOwnedTupleGo_enum (s := { s with heap := h', toks := tk + 1 }) ho fun h'' he' sb => ?_⟩
    have hT2 : h''.get? s.heap.objs.size = some { cls := .type "tuple", data := .seq #[.int i tk, u'] } := (sb.2 _ (Nat.ne_of_gt hel)).trans hT
    have new : ObjOk X.prog X.w (upd H s.heap.objs.size (.tup [.int (i : Nat), x])) h'' s.heap.objs.size (.tup [.int (i : Nat), x]) :=
      ⟨by show 2 ≤ sizeLine; decide, [.int i tk, u'], .cons ⟨_, rfl⟩ (.cons ru .nil), ⟨_, hT2, rfl, _, rfl⟩⟩
    have I1 : Inv X pins σ (upd H s.heap.objs.size (.tup [.int (i : Nat), x])) { s with heap := h'', toks := tk + 1 } :=
      I.turnedNew (ch := [e, it]) (fun b ob hb q => (sb.2 b (fun z => hb (by simp [z]))).trans (hk b ob (fun z => hb (by simp [z])) (fun z => hb (by simp [z])) q)) hf (Nat.le_refl _) new
    refine ⟨.ref s.heap.objs.size, _, I1, rfl, ⟨_, x, rfl, I.hok.fresh (Nat.le_refl _), rfl, fun ys hy => by rw [I.tuple_inj hy hq]; exact hx⟩, ⟨⟨u', ?_⟩, hit'.at fun o q => (sb.2 it (Ne.symm hne)).trans q, hne⟩, fun b hb => ?_⟩
    · have e1 : ((i + 1 : Nat) : Int) = (i : Int) + 1 := by omega
      rw [e1]; exact he'
    · have hb' : b < s.heap.objs.size := by
        have e' : b = e ∨ b = it := by simpa using hb
        rcases e' with z | z
        · rw [z]; exact hel
        · rw [z]; exact hil
      rw [upd_ne (Nat.ne_of_lt hb')]
      exact (hf b hb).1
  done := by
    intro X hP hw hK hc i pins s σ H E I hf st hg
    subst hP hw hK
    obtain ⟨⟨old, he⟩, hit, hne⟩ := st
    obtain ⟨xs, hq, hx⟩ := hg
    obtain ⟨its, rv, p, hz⟩ := I.tuple hq
    obtain ⟨f0, f1, f2, f3, f4, f5⟩ := hf it (by simp)
    have hl := rv.length
    exact wpAny_pyNext_enum_endT (I.ok.hd hc) he hit (show s.heap.IsTuple a its.toArray from p) (by simp; omega) fun h' eb => ⟨rfl, I.turned (t' := s.toks) (fun b o hb q => eb b o hb q) f0 f1 f3 f4 f5⟩
  self := fun A i s Q E st h => let ⟨⟨_, he⟩, _⟩ := st; wpAny_pyIter_enum he h
/-- enumerate(xs), xs a list or a tuple -/
def iEnumA (K : PySem.W.Frag) (ta : TA) : TI := fun σ H R => ta σ H fun vs H1 => ∃ a, vs = [.ref a] ∧ (((∃ xs, SqL K H1 a xs) ∧ R (Ite K a) H1) ∨ ((∃ xs, SqT K H1 a xs) ∧ R (IteT K a) H1))
theorem pi_enumA {X : Cx} {e : Expr} {ta : TA} {p pos tpos : Pos} {elts : List Expr} {kk : Nat} (hg : Gl X "enumerate") (hm : X.mg "enumerate" = none) (ha : PA X [e] ta) (hs : starEach [e] X.env = [(false, eval e X.env)] := by rfl) :
    PI X (.Tuple elts kk tpos) (.Call (.Name "enumerate" p) [e] [] pos) (iEnumA X.K ta) := by
  refine ⟨fun pins s σ H R I h => ?_⟩
  refine Call_ (ld_blt I hg hm boot_enumerate (PyProof.Rows.callWith_type1 (thn (ha.run pos pins s σ H _ I h) fun us s1 ⟨vs, H1, I1, r1, q1⟩ => ?_) hs rfl))
  obtain ⟨a, ex, q⟩ := q1
  subst ex
  cases r1 with
  | cons r rr =>
    cases rr
    cases r
    have fresh2 : ∀ b ∈ [s1.heap.objs.size + 1, s1.heap.objs.size], FpOk X pins H1 b := fun b hb => by
      have e' : b = s1.heap.objs.size + 1 ∨ b = s1.heap.objs.size := by simpa using hb
      have hle : s1.heap.objs.size ≤ b := by
        rcases e' with z | z
        · rw [z]; exact Nat.le_add_right _ _
        · rw [z]; exact Nat.le_refl _
      exact I1.fpOk hle (I1.hok.fresh hle)
    rcases q with ⟨⟨xs, hq⟩, q⟩ | ⟨⟨xs, hq⟩, q⟩
    · obtain ⟨its, rv, p', hz⟩ := I1.list hq
      refine call_enumerate_list p'.isList fun h' he hit hsz hk => wpAny_pyIter_enum he ?_
      have I2 : Inv X pins σ H1 { s1 with heap := h' } := I1.kept (t' := s1.toks) hk
      exact ⟨s1.heap.objs.size + 1, [s1.heap.objs.size + 1, s1.heap.objs.size], _, _, H1, rfl, I2, turn_enum a (s1.heap.objs.size + 1) s1.heap.objs.size, ⟨⟨.none, he⟩, hit, Nat.succ_ne_self _⟩, fresh2, q⟩
    · obtain ⟨its, rv, p', hz⟩ := I1.tuple hq
      obtain ⟨o1, ho1, _⟩ := id p'
      refine call_enumerate_tuple (show s1.heap.IsTuple a its.toArray from p') fun h' he hit hsz hk => wpAny_pyIter_enum he ?_
      have I2 : Inv X pins σ H1 { s1 with heap := h' } := I1.kept (t' := s1.toks) hk
      exact ⟨s1.heap.objs.size + 1, [s1.heap.objs.size + 1, s1.heap.objs.size], _, _, H1, rfl, I2, turn_enumT a (s1.heap.objs.size + 1) s1.heap.objs.size (Nat.ne_of_lt (Heap.lt_size ho1)), ⟨⟨.none, he⟩, hit, Nat.succ_ne_self _⟩, fresh2, q⟩
def enumFrom (n : Nat) : List D → List D
  | [] => []
  | x :: xs => .tup [.int n, x] :: enumFrom (n + 1) xs
theorem enumFrom_len : ∀ (n : Nat) (xs : List D), (enumFrom n xs).length = xs.length
  | _, [] => rfl
  | n, x :: xs => by simp [enumFrom, enumFrom_len (n + 1) xs]
theorem enumFrom_at : ∀ {n i : Nat} {xs : List D} {d : D}, (enumFrom n xs)[i]? = some d → ∃ x, xs[i]? = some x ∧ d = .tup [.int ((n + i : Nat) : Int), x]
  | _, _, [], _, h => by simp [enumFrom] at h
  | n, 0, x :: xs, d, h => by
    simp [enumFrom] at h
    exact ⟨x, rfl, by simp [← h]⟩
  | n, i + 1, x :: xs, d, h => by
    have h' : (enumFrom (n + 1) xs)[i]? = some d := by simpa [enumFrom] using h
    obtain ⟨y, h1, h2⟩ := enumFrom_at h'
    exact ⟨y, by simpa using h1, by rw [h2]; congr 4; omega⟩
def itEnum (S : Store) (d : D) : Option Itm := match d with
  | .tup xs => some (enumFrom 0 xs, none)
  | .lst xs => some (enumFrom 0 xs, none)
  | _ => none
def cEnum (c : DE) : DI := fun ρ S => match c ρ S with
  | some (d, S') => (itEnum S' d).map fun m => (m, S')
  | none => none
section
variable {P : Program} {w : World} {K : PySem.W.Frag} {B : Wd} {S : Store} {H : Hp}
theorem wlk_enumT {a : Addr} {xs : List D} (ha : ∀ B' S' H', St0 B S H B' S' H' → RS P w K B' S' H' → ∃ us, SqT K H' a us ∧ RVs K B' S' H' us xs) : Wlk P w K B S H (IteT K a) (enumFrom 0 xs, none) := by
  intro B' S' H' st hs lv i
  obtain ⟨us, hu, ru⟩ := ha B' S' H' st hs
  refine ⟨fun d hd => ?_, fun e => ⟨us, hu, by rw [ru.length, e, enumFrom_len]; exact Nat.le_refl _⟩⟩
  obtain ⟨x, hx, rfl⟩ := enumFrom_at hd
  obtain ⟨u, hux, rux⟩ := ru.get hx
  refine ⟨⟨us, u, hu, hux⟩, fun z H'' y' => ?_⟩
  obtain ⟨T, p, rfl, hT, rfl, g1⟩ := y'
  have e1 := g1 us hu
  rw [hux] at e1; cases e1
  refine ⟨Stp.new hs hT, hs.new hT, RV.newTup hs hT (.cons ?_ (.cons rux .nil))⟩
  rw [Nat.zero_add]
  exact .int _
theorem wlk_enumL {a : Addr} {xs : List D} (ha : ∀ B' S' H', St0 B S H B' S' H' → RS P w K B' S' H' → ∃ us, SqL K H' a us ∧ RVs K B' S' H' us xs) : Wlk P w K B S H (Ite K a) (enumFrom 0 xs, none) := by
  intro B' S' H' st hs lv i
  obtain ⟨us, hu, ru⟩ := ha B' S' H' st hs
  refine ⟨fun d hd => ?_, fun e => ⟨us, hu, by rw [ru.length, e, enumFrom_len]; exact Nat.le_refl _⟩⟩
  obtain ⟨x, hx, rfl⟩ := enumFrom_at hd
  obtain ⟨u, hux, rux⟩ := ru.get hx
  refine ⟨⟨us, u, hu, hux⟩, fun z H'' y' => ?_⟩
  obtain ⟨T, p, rfl, hT, rfl, g1⟩ := y'
  have e1 := g1 us hu
  rw [hux] at e1; cases e1
  refine ⟨Stp.new hs hT, hs.new hT, RV.newTup hs hT (.cons ?_ (.cons rux .nil))⟩
  rw [Nat.zero_add]
  exact .int _
end
theorem pdi_enum {X : Cx} {a : Expr} {c : DE} {p pos tpos : Pos} {elts : List Expr} {kk : Nat} (hm : X.mg "enumerate" = none) (h : PD X a c) (hg : Gl X "enumerate" := by rfl) (hs : starEach [a] X.env = (false, eval a X.env) :: starEach [] X.env := by rfl) (hs1 : starEach [a] X.env = [(false, eval a X.env)] := by rfl) :
    PDI X (.Tuple elts kk tpos) (.Call (.Name "enumerate" p) [a] [] pos) (cEnum c) :=
  pi_imp (pi_enumA hg hm (pa_cons h pa_nil hs) hs1) fun σ H R ⟨B, ρ, S, m, S', hs, he, e, k⟩ => by
    unfold cEnum at e
    split at e
    · rename_i d S1 e1
      obtain ⟨m', e2, e3⟩ := Option.map_eq_some_iff.mp e
      cases e3
      refine ⟨B, ρ, S, d, _, hs, he, e1, fun B' v H' st hs' r => ?_⟩
      unfold itEnum at e2
      split at e2
      · cases e2
        obtain ⟨q, us, rfl, hu, ru⟩ := r.tupI
        exact ⟨q, rfl, .inr ⟨⟨us, hu⟩, k B' _ H' st hs' (wlk_enumT (later_tup r))⟩⟩
      · cases e2
        cases id r with
        | lst h1 n1 q1 => exact ⟨_, rfl, .inl ⟨⟨_, SqL.of h1⟩, k B' _ H' st hs' (wlk_enumL (later_l r))⟩⟩
      · cases e2
    · cases e
end DL

/-! Comprehensions. -/
namespace DL
open PySem PySem.Spec PyProof.Rows L2

def wipeD (ρ : Env') : List Nat → Env'
  | [] => ρ
  | v :: vs => (wipeD ρ vs).set v none
theorem wipeD_len (ρ : Env') : ∀ vs : List Nat, (wipeD ρ vs).length = ρ.length
  | [] => rfl
  | v :: vs => by unfold wipeD; rw [List.length_set, wipeD_len ρ vs]
theorem wipe_in {σ : L2.St} {i : Nat} : ∀ {vs : List Nat}, i ∈ vs → i < σ.length → (wipe σ vs)[i]? = some none
  | v :: vs, h, hl => by
    unfold wipe
    by_cases e : v = i
    · subst e
      rw [List.getElem?_set_self (by rw [wipe_length]; exact hl)]
    · rw [List.getElem?_set_ne e]
      rcases List.mem_cons.mp h with z | z
      · exact absurd z.symm e
      · exact wipe_in z hl
theorem wipeD_out {ρ : Env'} {i : Nat} : ∀ {vs : List Nat}, i ∉ vs → (wipeD ρ vs)[i]? = ρ[i]?
  | [], _ => rfl
  | v :: vs, h => by
    simp only [List.mem_cons, not_or] at h
    unfold wipeD
    rw [List.getElem?_set_ne (Ne.symm h.1)]
    exact wipeD_out h.2
theorem wipeD_in {ρ : Env'} {i : Nat} : ∀ {vs : List Nat}, i ∈ vs → i < ρ.length → (wipeD ρ vs)[i]? = some none
  | v :: vs, h, hl => by
    unfold wipeD
    by_cases e : v = i
    · subst e
      rw [List.getElem?_set_self (by rw [wipeD_len]; exact hl)]
    · rw [List.getElem?_set_ne e]
      rcases List.mem_cons.mp h with z | z
      · exact absurd z.symm e
      · exact wipeD_in z hl
theorem RE.wipe {K : PySem.W.Frag} {B : Wd} {S : Store} {H : Hp} {σ : L2.St} {ρ : Env'} (r : RE K B S H σ ρ) (vs : List Nat) : RE K B S H (L2.wipe σ vs) (wipeD ρ vs) := by
  refine ⟨by rw [wipe_length, wipeD_len]; exact r.len, fun i d e => ?_⟩
  by_cases h : i ∈ vs
  · by_cases hl : i < ρ.length
    · rw [wipeD_in h hl] at e; cases e
    · have := (List.getElem?_eq_some_iff.mp e).1
      rw [wipeD_len] at this
      omega
  · rw [wipeD_out h] at e
    rw [wipe_out h]
    exact r.at_ i d e
theorem wipe_same {σ σ' : L2.St} {vs ws : List Nat} (hw : ∀ i ∈ ws, i ∈ vs) (h : ∀ j, j ∉ ws → σ'[j]? = (wipe σ vs)[j]?) (hl : σ'.length = (wipe σ vs).length) : wipe σ' vs = wipe σ vs := by
  refine List.ext_getElem? fun i => ?_
  have hl' : σ'.length = σ.length := by rw [hl, wipe_length]
  by_cases hi : i ∈ vs
  · by_cases hn : i < σ.length
    · rw [wipe_in hi (by rw [hl']; exact hn), wipe_in hi hn]
    · rw [List.getElem?_eq_none (by rw [wipe_length, hl']; omega), List.getElem?_eq_none (by rw [wipe_length]; omega)]
  · rw [wipe_out hi, h i (fun z => hi (hw i z))]

-- the turns of a comprehension: f y acc S is one turn
abbrev LT := D → List D → Store → Option (List D × Store)
open Classical in
noncomputable def lcGo (f : LT) (l : Option Nat) (xs : List D) : List D → List D → Store → Option (List D × Store)
  | [], acc, S => if liveOk l xs S then some (acc, S) else none
  | y :: ys, acc, S => if liveOk l xs S then (match f y acc S with
    | none => none
    | some (acc', S') => lcGo f l xs ys acc' S') else none
def ltUp (f : LT) : Prop := ∀ y acc acc' S S', f y acc S = some (acc', S') → acc.length ≤ acc'.length
theorem lcGo_len {f : LT} {l : Option Nat} {xs : List D} (hf : ltUp f) : ∀ {ys acc : List D} {S : Store} {res : List D} {S' : Store}, lcGo f l xs ys acc S = some (res, S') → acc.length ≤ res.length
  | [], acc, S, res, S', h => by
    unfold lcGo at h
    split at h
    · cases h; exact Nat.le_refl _
    · cases h
  | y :: ys, acc, S, res, S', h => by
    unfold lcGo at h
    split at h
    · split at h
      · cases h
      · rename_i e
        exact Nat.le_trans (hf _ _ _ _ _ e) (lcGo_len hf h)
    · cases h
/-- one clause -/
def lt1 (g : DG) (t : DT) (e : DE) (ρ : Env') : LT := fun y acc S => match g y ρ with
  | none => none
  | some ρ1 => (match t ρ1 S with
    | none => none
    | some (false, S1) => some (acc, S1)
    | some (true, S1) => (match e ρ1 S1 with
      | none => none
      | some (d, S2) => some (acc ++ [d], S2)))
/-- two clauses -/
noncomputable def lt2 (g : DG) (t : DT) (ci1 : DI) (g1 : DG) (t1 : DT) (e : DE) (vs1 : List Nat) (ρ : Env') : LT := fun y acc S => match g y ρ with
  | none => none
  | some ρ1 => (match t ρ1 S with
    | none => none
    | some (false, S1) => some (acc, S1)
    | some (true, S1) => (match ci1 ρ1 S1 with
      | none => none
      | some (m, S2) => lcGo (lt1 g1 t1 e (wipeD ρ1 vs1)) m.2 m.1 m.1 acc S2))
theorem lt1_up {g : DG} {t : DT} {e : DE} {ρ : Env'} : ltUp (lt1 g t e ρ) := fun y acc acc' S S' h => by
  unfold lt1 at h
  split at h
  · cases h
  · split at h
    · cases h
    · cases h; exact Nat.le_refl _
    · split at h
      · cases h
      · cases h; simp
theorem lt2_up {g g1 : DG} {t t1 : DT} {ci1 : DI} {e : DE} {vs1 : List Nat} {ρ : Env'} : ltUp (lt2 g t ci1 g1 t1 e vs1 ρ) := fun y acc acc' S S' h => by
  unfold lt2 at h
  split at h
  · cases h
  · split at h
    · cases h
    · cases h; exact Nat.le_refl _
    · split at h
      · cases h
      · exact lcGo_len lt1_up h
def mkL (bx : Bool) (ds : List D) (S : Store) : Option (D × Store) := if ds.length ≤ sizeLine then (if bx = true then some (.ref S.length, S ++ [.lst ds]) else some (.lst ds, S)) else none
noncomputable def cLC (vs : List Nat) (bx : Bool) (ci : DI) (f : Env' → LT) : DE := fun ρ S => match ci ρ S with
  | none => none
  | some (m, S1) => (match lcGo (f (wipeD ρ vs)) m.2 m.1 m.1 [] S1 with
    | some (ds, S2) => mkL bx ds S2
    | none => none)

section
variable {P : Program} {w : World} {K : PySem.W.Frag} {B B' : Wd} {S S' : Store} {H H' : Hp}
/-- what is hidden comes to light -/
abbrev showB (B : Wd) (h : List Addr) : Wd := ⟨B.at_, h⟩
theorem owned_show {D : Addr} {h : List Addr} (e : B.hid = D :: h) {a : Addr} (o : Owned (showB B h) S a) : Owned B S a := by
  rcases o with o | o
  · exact .inl (by rw [e]; exact List.mem_cons_of_mem _ o)
  · exact .inr o
theorem RS.shown {D : Addr} {h : List Addr} (r : RS P w K B S H) (e : B.hid = D :: h) : RS P w K (showB B h) S H := by
  refine ⟨r.inj, fun k c q => ?_, fun a ha => r.hdt a (by rw [e]; exact List.mem_cons_of_mem _ ha), fun a k c ha q n => r.hdn a k c (by rw [e]; exact List.mem_cons_of_mem _ ha) q n⟩
  exact CRl.cut (B := B) (S := S) (B' := showB B h) (S' := S) (n := S.length) (fun _ _ => rfl) (Nat.le_refl _) (fun a (o : Owned (showB B h) S a) => owned_show e o) (r.cel k c q) (r.cel k c q).below
/-- a comprehension's result, in the open -/
theorem shown {D : Addr} {vs : List V} {ds : List DL.D} {d : DL.D} {bx : Bool} {S2 : Store} (hs1 : RS P w K B S H) (n : H D = none) (st : St0 B S H B' S' H') (hk : ∀ a, a ∈ B.hid → H' a = H a) (hs : RS P w K B' S' H') (e : B'.hid = D :: B.hid) (hD : H' D = some (.lst vs)) (rv : RVs K B' S' H' vs ds) (em : mkL bx ds S' = some (d, S2)) :
    ∃ B2, Stp B S H B2 S2 H' ∧ RS P w K B2 S2 H' ∧ RV K B2 S2 H' (.ref D) d := by
  have rs := hs.shown e
  have nD : ¬ Owned (showB B' B.hid) S' D := fun o => by
    rcases o with o | ⟨k, c, ek, nc, hb⟩
    · obtain ⟨u, hu⟩ := hs1.hdt D o
      rw [n] at hu; cases hu
    · exact hs.hdn D k c (by rw [e]; exact List.mem_cons_self) ek nc hb
  have rv' : RVs K (showB B' B.hid) S' H' vs ds := RVs.cut (n := S'.length) (B := B') (S := S') (B' := showB B' B.hid) (S' := S') (fun _ _ => rfl) (Nat.le_refl _) (fun a (o : Owned (showB B' B.hid) S' a) => owned_show e o) _ _ rv (RVs.areBelow _ _ rv)
  have stp : Stp B S H (showB B' B.hid) S' H' := ⟨⟨st.len, st.agr, st.oth, fun a o h w => st.own a o h (owned_show e w)⟩, rfl, hk⟩
  unfold mkL at em
  split at em
  · split at em
    · cases em
      -- a cell more, at D
      have ho : ∀ a, Owned (addB (showB B' B.hid) S'.length D) (S' ++ [.lst ds]) a → a = D ∨ Owned (showB B' B.hid) S' a := fun a o => owned_add o
      -- the contents never mention D: the hidden world says so
      have cutH : ∀ (x : List DL.D) (us : List V), RVs K B' S' H' us x → RVs K (addB (showB B' B.hid) S'.length D) (S' ++ [.lst ds]) H' us x := fun x us q =>
        RVs.cut (n := S'.length) (B := B') (S := S') (B' := addB (showB B' B.hid) S'.length D) (S' := S' ++ [.lst ds]) (fun k hk => addB_lt hk) (by simp) (fun a o => show Owned B' S' a from by
          rcases ho a o with z | z
          · rw [z]; exact .inl (by rw [e]; exact List.mem_cons_self)
          · exact owned_show e z) _ _ q (RVs.areBelow _ _ q)
      refine ⟨addB (showB B' B.hid) S'.length D, ⟨⟨Nat.le_trans st.len (by simp), fun k hk => (addB_lt (Nat.lt_of_lt_of_le hk st.len)).trans (st.agr k hk), st.oth, fun a o h w => ?_⟩, rfl, hk⟩, ⟨fun i j ci cj ei ej ni nj eq => ?_, fun k c ek => ?_, rs.hdt, fun a k c ha ek nc => ?_⟩, ?_⟩
      · rcases ho a w with z | z
        · subst z; rw [n] at h; cases h
        · exact stp.own a o h z
      · rcases at_add ei with ⟨li, hi⟩ | ⟨li, hi⟩ <;> rcases at_add ej with ⟨lj, hj⟩ | ⟨lj, hj⟩
        · rw [addB_lt li, addB_lt lj] at eq
          exact hs.inj i j ci cj hi hj ni nj eq
        · subst lj
          rw [addB_lt li, addB_self] at eq
          exact absurd eq (hs.hdn D i ci (by rw [e]; exact List.mem_cons_self) hi ni)
        · subst li
          rw [addB_lt lj, addB_self] at eq
          exact absurd eq.symm (hs.hdn D j cj (by rw [e]; exact List.mem_cons_self) hj nj)
        · rw [li, lj]
      · rcases at_add ek with ⟨li, hi⟩ | ⟨li, hi⟩
        · rw [addB_lt li]
          exact CRl.cut (n := S'.length) (B := B') (S := S') (B' := addB (showB B' B.hid) S'.length D) (S' := S' ++ [.lst ds]) (fun k hk => addB_lt hk) (by simp) (fun a o => show Owned B' S' a from by
            rcases ho a o with z | z
            · rw [z]; exact .inl (by rw [e]; exact List.mem_cons_self)
            · exact owned_show e z) (hs.cel k c hi) (hs.cel k c hi).below
        · subst li; subst hi
          rw [addB_self]
          exact ⟨vs, hD, cutH _ _ rv⟩
      · rcases at_add ek with ⟨li, hi⟩ | ⟨li, hi⟩
        · rw [addB_lt li]
          exact rs.hdn a k c ha hi nc
        · subst li
          rw [addB_self]
          rintro rfl
          exact nD (.inl ha)
      · have e2 : V.ref D = V.ref (addB (showB B' B.hid) S'.length D S'.length) := by rw [addB_self]
        rw [e2]
        exact .ref (by simp)
    · cases em
      exact ⟨_, stp, rs, .lst hD nD rv'⟩
  · cases em
end

/-- the state within a comprehension -/
structure CI (P : Program) (w : World) (K : PySem.W.Frag) (B1 : Wd) (S1 : Store) (H1 : Hp) (D : Addr) (B : Wd) (S : Store) (H : Hp) (acc : List DL.D) : Prop where
  st : St0 B1 S1 H1 B S H
  hde : B.hid = D :: B1.hid
  hdk : ∀ a, a ∈ B1.hid → H a = H1 a
  rs : RS P w K B S H
  acc : ∃ vs, H D = some (.lst vs) ∧ RVs K B S H vs acc
section
variable {P : Program} {w : World} {K : PySem.W.Frag} {B1 B B2 : Wd} {S1 S S2 : Store} {H1 H H2 : Hp} {D : Addr} {acc : List DL.D}
theorem CI.step (c : CI P w K B1 S1 H1 D B S H acc) (st : Stp B S H B2 S2 H2) (hs : RS P w K B2 S2 H2) : CI P w K B1 S1 H1 D B2 S2 H2 acc := by
  obtain ⟨vs, h, r⟩ := c.acc
  refine ⟨c.st.trans st.toSt0, st.hde.trans c.hde, fun a ha => ?_, hs, vs, ?_, RVs.mono st _ _ r⟩
  · rw [st.hdk a (by rw [c.hde]; exact List.mem_cons_of_mem _ ha)]
    exact c.hdk a ha
  · rw [st.hdk D (by rw [c.hde]; exact List.mem_cons_self)]
    exact h
theorem CI.push (c : CI P w K B1 S1 H1 D B S H acc) {v : V} {d : DL.D} (r : RV K B S H v d) (n : H1 D = none) (ht : ∀ a, a ∈ B1.hid → ∃ u, H1 a = some u) :
    ∃ vs, H D = some (.lst vs) ∧ vs.length = acc.length ∧ CI P w K B1 S1 H1 D B S (upd H D (.lst (vs ++ [v]))) (acc ++ [d]) ∧ St0 B S H B S (upd H D (.lst (vs ++ [v]))) := by
  obtain ⟨vs, h, q⟩ := c.acc
  have hD : D ∈ B.hid := by rw [c.hde]; exact List.mem_cons_self
  have s0 : St0 B S H B S (upd H D (.lst (vs ++ [v]))) := St0.hid hD
  refine ⟨vs, h, q.length, ⟨c.st.trans s0, c.hde, fun a ha => ?_, c.rs.hid hD, _, upd_same, (RVs.mono0 s0 _ _ q).append (.cons (RV.mono0 s0 _ _ r) .nil)⟩, s0⟩
  obtain ⟨u, hu⟩ := ht a ha
  rw [upd_ne (ne_of_none hu n)]
  exact c.hdk a ha
/-- the loop of a clause -/
theorem lc_loop {B0 Bs : Wd} {S0 Ss : Store} {H0 Hs : Hp} {J : It} {m : Itm} {f : LT} {ds acc0 : List DL.D} {Se : Store} {T : V → Hp → (Hp → Prop) → Prop} {Fin : Hp → Prop} (W : Wlk P w K B0 S0 H0 J m)
    (st : St0 B0 S0 H0 Bs Ss Hs) (ci : CI P w K B1 S1 H1 D Bs Ss Hs acc0) (e : lcGo f m.2 m.1 m.1 acc0 Ss = some (ds, Se)) (hf : ltUp f)
    (hT : ∀ y acc acc' S S' B H x (Nx : Hp → Prop), St0 Bs Ss Hs B S H → CI P w K B1 S1 H1 D B S H acc → RV K B S H x y → f y acc S = some (acc', S') → acc'.length ≤ ds.length → (∀ B' H', CI P w K B1 S1 H1 D B' S' H' acc' → St0 B S H B' S' H' → Nx H') → T x H Nx)
    (hF : ∀ B' H', CI P w K B1 S1 H1 D B' Se H' ds → St0 Bs Ss Hs B' Se H' → Fin H') :
    ∃ W : Nat → Nat → Hp → Prop, (∃ m, W 0 m Hs) ∧ ∀ i m H, W i m H → (J.stop i H ∧ Fin H) ∨ (J.go i H ∧ ∃ Nx : Hp → Prop, (∀ H', Nx H' → ∃ m', m' < m ∧ W (i + 1) m' H') ∧ ∀ x H', J.yld i H x H' → T x H' Nx) := by
  refine ⟨fun i n H => n = m.1.length - i ∧ i ≤ m.1.length ∧ ∃ B S acc, St0 Bs Ss Hs B S H ∧ CI P w K B1 S1 H1 D B S H acc ∧ lcGo f m.2 m.1 (m.1.drop i) acc S = some (ds, Se),
    ⟨m.1.length, by simp, Nat.zero_le _, Bs, Ss, acc0, St0.refl .., ci, by simpa using e⟩, ?_⟩
  rintro i n H ⟨rfl, hl, B, S, acc, s1, c, eg⟩
  by_cases hlt : i < m.1.length
  · have hd : m.1.drop i = m.1[i] :: m.1.drop (i + 1) := (List.drop_eq_getElem_cons hlt)
    have hx : m.1[i]? = some m.1[i] := by simp [hlt]
    rw [hd] at eg
    unfold lcGo at eg
    split at eg
    · rename_i lv
      obtain ⟨w1, _⟩ := W B S H (st.trans s1) c.rs lv i
      obtain ⟨w2, w3⟩ := w1 _ hx
      split at eg
      · cases eg
      · rename_i acc' S' ef
        refine .inr ⟨w2, fun H' => i + 1 ≤ m.1.length ∧ ∃ B S acc, St0 Bs Ss Hs B S H' ∧ CI P w K B1 S1 H1 D B S H' acc ∧ lcGo f m.2 m.1 (m.1.drop (i + 1)) acc S = some (ds, Se), fun H' q => ⟨m.1.length - (i + 1), by omega, rfl, q⟩, fun x H3 y => ?_⟩
        obtain ⟨st3, hs3, r3⟩ := w3 x H3 y
        exact hT _ acc acc' S S' B H3 x _ (s1.trans st3.toSt0) (c.step st3 hs3) r3 ef (lcGo_len hf eg) fun B' H' c' s' => ⟨hlt, B', S', acc', (s1.trans st3.toSt0).trans s', c', eg⟩
    · cases eg
  · have hi : i = m.1.length := by omega
    subst hi
    rw [List.drop_length] at eg
    unfold lcGo at eg
    split at eg
    · rename_i lv
      cases eg
      exact .inl ⟨(W B _ H (st.trans s1) c.rs lv _).2 rfl, hF B H c s1⟩
    · cases eg
/-- a turn of the innermost clause -/
theorem lt1_turn {Bs B : Wd} {Ss S S' : Store} {Hs H : Hp} {g : DG} {t : DT} {e : DE} {ρ : Env'} {σ : L2.St} {vs ws : List Nat} {y : DL.D} {x : V} {acc acc' : List DL.D} {Nx : Hp → Prop} (hr : RE K Bs Ss Hs (wipe σ vs) ρ) (hw : ∀ i ∈ ws, i ∈ vs) (n : H1 D = none) (ht : ∀ a, a ∈ B1.hid → ∃ u, H1 a = some u)
    (s : St0 Bs Ss Hs B S H) (c : CI P w K B1 S1 H1 D B S H acc) (r : RV K B S H x y) (ef : lt1 g t e ρ y acc S = some (acc', S')) (hz : acc'.length ≤ sizeLine) (hN : ∀ B' H', CI P w K B1 S1 H1 D B' S' H' acc' → St0 B S H B' S' H' → Nx H') :
    tG P w K ws g x (wipe σ vs) H fun σ2 H2 => wipe σ2 vs = wipe σ vs ∧ tT P w K t σ2 H2 fun b H3 => if b = true then tD P w K e σ2 H3 fun y H4 => ∃ acc, H4 D = some (.lst acc) ∧ acc.length < sizeLine ∧ Nx (upd H4 D (.lst (acc ++ [y]))) else Nx H3 := by
  unfold lt1 at ef
  split at ef
  · cases ef
  · rename_i ρ1 eg
    refine ⟨B, ρ, S, y, ρ1, c.rs, hr.mono0 s, r, eg, fun σ' he' ho hl => ⟨wipe_same hw ho hl, ?_⟩⟩
    split at ef
    · cases ef
    · rename_i S3 et
      cases ef
      exact ⟨B, ρ1, _, _, _, c.rs, he', et, fun B' H' st hs' => iteF (hN B' H' (c.step st hs') st.toSt0)⟩
    · rename_i S3 et
      refine ⟨B, ρ1, _, _, _, c.rs, he', et, fun B3 H3 st hs3 => iteT ?_⟩
      split at ef
      · cases ef
      · rename_i d S4 ee
        cases ef
        refine ⟨B3, ρ1, S3, d, _, hs3, he'.mono st, ee, fun B4 v4 H4 st4 hs4 r4 => ?_⟩
        obtain ⟨us, h1, h2, h3, h4⟩ := ((c.step st hs3).step st4 hs4).push r4 n ht
        refine ⟨us, h1, ?_, hN B4 _ h3 ((st.trans st4).toSt0.trans h4)⟩
        rw [h2]
        simp at hz
        omega
/-- the reading of a comprehension of one clause -/
theorem lc_read {ci : DI} {g : DG} {t : DT} {e : DE} {vs ws : List Nat} {bx : Bool} {σ : L2.St} {Q : VK} (hw : ∀ i ∈ ws, i ∈ vs) (h : tD P w K (cLC vs bx ci (lt1 g t e)) σ H Q) : tLc (tI P w K ci) (tG P w K ws g) (tT P w K t) (tD P w K e) vs σ H Q := by
  obtain ⟨B, ρ, S, d, S', hs, he, ec, k⟩ := h
  unfold cLC at ec
  split at ec
  · cases ec
  · rename_i m S1 e1
    split at ec
    · rename_i ds S2 e2
      refine ⟨B, ρ, S, m, S1, hs, he, e1, fun B1 J H1 st1 hs1 W D n => ?_⟩
      have hz : ds.length ≤ sizeLine := by
        unfold mkL at ec
        split at ec
        · assumption
        · cases ec
      refine lc_loop (D := D) (B1 := B1) (S1 := S1) (H1 := H1) W (St0.hide n) ⟨St0.hide n, rfl, fun a ha => upd_ne (let ⟨_, hh⟩ := hs1.hdt a ha; ne_of_none hh n), hs1.hide n, [], upd_same, .nil⟩ e2 lt1_up (fun y acc acc' S S' B H x Nx s0 c r ef hl hN => ?_) fun B' H' c s0 => ?_
      · exact lt1_turn (((he.mono st1).wipe vs).mono0 (St0.hide n)) hw n hs1.hdt s0 c r ef (Nat.le_trans hl hz) hN
      · obtain ⟨us, hu, ru⟩ := c.acc
        obtain ⟨B2, h1, h2, h3⟩ := shown hs1 n c.st c.hdk c.rs c.hde hu ru ec
        exact k B2 _ H' (st1.trans h1) h2 h3
    · cases ec
/-- of two clauses -/
theorem lc2_read {ci ci1 : DI} {g g1 : DG} {t t1 : DT} {e : DE} {vs ws vs1 ws1 : List Nat} {bx : Bool} {σ : L2.St} {Q : VK} (hw : ∀ i ∈ ws, i ∈ vs) (hw1 : ∀ i ∈ ws1, i ∈ vs1) (h : tD P w K (cLC vs bx ci (lt2 g t ci1 g1 t1 e vs1)) σ H Q) :
    tLc2 (tI P w K ci) (tG P w K ws g) (tT P w K t) (tI P w K ci1) (tG P w K ws1 g1) (tT P w K t1) (tD P w K e) vs vs1 σ H Q := by
  obtain ⟨B, ρ, S, d, S', hs, he, ec, k⟩ := h
  unfold cLC at ec
  split at ec
  · cases ec
  · rename_i m S1 e1
    split at ec
    · rename_i ds S2 e2
      refine ⟨B, ρ, S, m, S1, hs, he, e1, fun B1 J H1 st1 hs1 W D n => ?_⟩
      have hz : ds.length ≤ sizeLine := by
        unfold mkL at ec
        split at ec
        · assumption
        · cases ec
      refine lc_loop (D := D) (B1 := B1) (S1 := S1) (H1 := H1) W (St0.hide n) ⟨St0.hide n, rfl, fun a ha => upd_ne (let ⟨_, hh⟩ := hs1.hdt a ha; ne_of_none hh n), hs1.hide n, [], upd_same, .nil⟩ e2 lt2_up (fun y acc acc' S S' B H x Nx s0 c r ef hl hN => ?_) fun B' H' c s0 => ?_
      · have hr := ((he.mono st1).wipe vs).mono0 (St0.hide (o := HO.lst []) n)
        unfold lt2 at ef
        split at ef
        · cases ef
        · rename_i ρ1 eg
          refine ⟨B, _, S, y, ρ1, c.rs, hr.mono0 s0, r, eg, fun σ' he' ho hl' => ⟨wipe_same hw ho hl', ?_⟩⟩
          split at ef
          · cases ef
          · rename_i S3 et
            cases ef
            exact ⟨B, ρ1, S, _, _, c.rs, he', et, fun B' H' st hs' => iteF (hN B' H' (c.step st hs') st.toSt0)⟩
          · rename_i S3 et
            refine ⟨B, ρ1, S, _, _, c.rs, he', et, fun B3 H3 st hs3 => iteT ?_⟩
            split at ef
            · cases ef
            · rename_i m1 S4 ei
              refine ⟨B3, ρ1, S3, m1, S4, hs3, he'.mono st, ei, fun B4 J1 H4 st4 hs4 W1 => ?_⟩
              refine lc_loop (D := D) (B1 := B1) (S1 := S1) (H1 := H1) W1 (St0.refl ..) ((c.step st hs3).step st4 hs4) ef lt1_up (fun y acc acc' S S' B H x Nx s0 c r ef hl2 hN => ?_) fun B' H' c s2 => hN B' H' c ((st.trans st4).toSt0.trans s2)
              exact lt1_turn (((he'.mono st).mono st4).wipe vs1) hw1 n hs1.hdt s0 c r ef (Nat.le_trans hl2 (Nat.le_trans hl hz)) hN
      · obtain ⟨us, hu, ru⟩ := c.acc
        obtain ⟨B2, h1, h2, h3⟩ := shown hs1 n c.st c.hdk c.rs c.hde hu ru ec
        exact k B2 _ H' (st1.trans h1) h2 h3
    · cases ec
end
end DL

/-! Comprehensions as expressions; lists that change; (0,) * n. -/
namespace DL
open PySem PySem.Spec PyProof.Rows L2

abbrev tYesD : DT := fun _ S => some (true, S)
section
variable {X : Cx} {elt tg iter tg1 iter1 : Expr} {ifs ifs1 : List Expr} {scope : Scope} {own : List (Str × Nat)} {pos spos py : Pos} {ci ci1 : DI} {g g1 : DG} {t t1 : DT} {e : DE} {ws ws1 vs1 : List Nat} {bx : Bool} {y : Str} {i : Nat}
theorem pts_imp {ifs : List Expr} {t t' : TT} (h : PTs X ifs t) (i : ∀ σ H Q, t' σ H Q → t σ H Q) : PTs X ifs t' := ⟨fun pins s σ H Q I hw => h.run pins s σ H Q I (i σ H Q hw)⟩
theorem pdts_nil : PTs X [] (tT X.prog X.w X.K tYesD) := pts_imp pts_nil fun σ H Q ⟨B, ρ, S, d, S', hs, he, e, k⟩ => by
  cases e
  exact k B H (Stp.refl ..) hs
theorem pdts_one {c : Expr} {t : DT} (h : PDT X c t) : PTs X [c] (tT X.prog X.w X.K t) := pts_one h
theorem pd_lc (bx : Bool) (hc : X.calm = true) (hN : X.N.Nodup) (hi : PDI X tg iter ci) (ok : BlkOk X.N X.env.scope scope own) (hw : ∀ i ∈ ws, i ∈ own.map (·.2))
    (hg : ∀ (s : Shared) (H : Hp) (C : Addr) (cl : List (Str × Addr)) (fp : List Addr), PDG (X.blk s H scope (compEnvC scope cl C X.env) fp) tg ws g) (ht : ∀ (s : Shared) (H : Hp) (C : Addr) (cl : List (Str × Addr)) (fp : List Addr), PTs (X.blk s H scope (compEnvC scope cl C X.env) fp) ifs (tT X.prog X.w X.K t))
    (he : ∀ (s : Shared) (H : Hp) (C : Addr) (cl : List (Str × Addr)) (fp : List Addr), PD (X.blk s H scope (compEnvC scope cl C X.env) fp) elt e) (hs : ∀ x, foldedSetIterable iter X.env x = pure x := by intro _; rfl) :
    PD X (.ListComp elt [⟨tg, iter, ifs, 0⟩] scope pos) (cLC (own.map (·.2)) bx ci (lt1 g t e)) :=
  pe_imp (pe_lc hc hN hi ok hg ht he hs) fun σ H Q h => lc_read hw h
theorem pds_setLc (bx : Bool) (hc : X.calm = true) (hN : X.N.Nodup) (hy : X.N[i]? = some y) (hyl : X.env.scope.names.lookup y = some .local)
    (hsw : swapsWith (.ListComp elt [⟨tg, iter, ifs, 0⟩] scope pos) (some (.Name y py)) spos.line X.env = pure true) (hi : PDI X tg iter ci) (ok : BlkOk X.N X.env.scope scope own) (hw : ∀ i ∈ ws, i ∈ own.map (·.2))
    (hg : ∀ (s : Shared) (H : Hp) (C : Addr) (cl : List (Str × Addr)) (fp : List Addr), PDG (X.blk s H scope (compEnvC scope cl C X.env) fp) tg ws g) (ht : ∀ (s : Shared) (H : Hp) (C : Addr) (cl : List (Str × Addr)) (fp : List Addr), PTs (X.blk s H scope (compEnvC scope cl C X.env) fp) ifs (tT X.prog X.w X.K t))
    (he : ∀ (s : Shared) (H : Hp) (C : Addr) (cl : List (Str × Addr)) (fp : List Addr), PD (X.blk s H scope (compEnvC scope cl C X.env) fp) elt e) (hs : ∀ x, foldedSetIterable iter X.env x = pure x := by intro _; rfl) :
    PDS X (.Assign [.Name y py] (.ListComp elt [⟨tg, iter, ifs, 0⟩] scope pos) spos) (sSet (gN i) (cLC (own.map (·.2)) bx ci (lt1 g t e))) := by
  refine ps_imp (ps_setLc (g := tG X.prog X.w X.K ws g) (te := tD X.prog X.w X.K e) hc hN hy hyl hsw hi ok hg ht he hs) fun E σ H ⟨B, ρ, S, f, hs, he, ef, k⟩ => ?_
  unfold sSet at ef
  split at ef
  · rename_i d S1 e1
    cases ef
    exact lc_read hw ⟨B, ρ, S, d, S1, hs, he, e1, fun B' v H' st hs' r => k B' _ H' st hs' ((he.mono st).set r i)⟩
  · cases ef
theorem pd_lc2 (bx : Bool) (hc : X.calm = true) (hN : X.N.Nodup) (hi : PDI X tg iter ci) (ok : BlkOk X.N X.env.scope scope own) (hv : ∀ i ∈ vs1, i ∈ own.map (·.2)) (hw : ∀ i ∈ ws, i ∈ own.map (·.2)) (hw1 : ∀ i ∈ ws1, i ∈ vs1)
    (hg : ∀ (s : Shared) (H : Hp) (C : Addr) (cl : List (Str × Addr)) (fp : List Addr), PDG (X.blk s H scope (compEnvC scope cl C X.env) fp) tg ws g) (ht : ∀ (s : Shared) (H : Hp) (C : Addr) (cl : List (Str × Addr)) (fp : List Addr), PTs (X.blk s H scope (compEnvC scope cl C X.env) fp) ifs (tT X.prog X.w X.K t))
    (hi1 : ∀ (s : Shared) (H : Hp) (C : Addr) (cl : List (Str × Addr)) (fp : List Addr), PDI (X.blk s H scope (compEnvC scope cl C X.env) fp) tg1 iter1 ci1)
    (hg1 : ∀ (s : Shared) (H : Hp) (C : Addr) (cl : List (Str × Addr)) (fp : List Addr), PDG (X.blk s H scope (compEnvC scope cl C X.env) fp) tg1 ws1 g1) (ht1 : ∀ (s : Shared) (H : Hp) (C : Addr) (cl : List (Str × Addr)) (fp : List Addr), PTs (X.blk s H scope (compEnvC scope cl C X.env) fp) ifs1 (tT X.prog X.w X.K t1))
    (he : ∀ (s : Shared) (H : Hp) (C : Addr) (cl : List (Str × Addr)) (fp : List Addr), PD (X.blk s H scope (compEnvC scope cl C X.env) fp) elt e) (hs : ∀ x, foldedSetIterable iter X.env x = pure x := by intro _; rfl) (hs1 : ∀ env x, foldedSetIterable iter1 env x = pure x := by intro _ _; rfl) :
    PD X (.ListComp elt [⟨tg, iter, ifs, 0⟩, ⟨tg1, iter1, ifs1, 0⟩] scope pos) (cLC (own.map (·.2)) bx ci (lt2 g t ci1 g1 t1 e vs1)) :=
  pe_imp (pe_lc2 hc hN hi ok hv hg ht hi1 hg1 ht1 he hs hs1) fun σ H Q h => lc2_read hw hw1 h
theorem pds_setLc2 (bx : Bool) (hc : X.calm = true) (hN : X.N.Nodup) (hy : X.N[i]? = some y) (hyl : X.env.scope.names.lookup y = some .local)
    (hsw : swapsWith (.ListComp elt [⟨tg, iter, ifs, 0⟩, ⟨tg1, iter1, ifs1, 0⟩] scope pos) (some (.Name y py)) spos.line X.env = pure true) (hi : PDI X tg iter ci) (ok : BlkOk X.N X.env.scope scope own) (hv : ∀ i ∈ vs1, i ∈ own.map (·.2)) (hw : ∀ i ∈ ws, i ∈ own.map (·.2)) (hw1 : ∀ i ∈ ws1, i ∈ vs1)
    (hg : ∀ (s : Shared) (H : Hp) (C : Addr) (cl : List (Str × Addr)) (fp : List Addr), PDG (X.blk s H scope (compEnvC scope cl C X.env) fp) tg ws g) (ht : ∀ (s : Shared) (H : Hp) (C : Addr) (cl : List (Str × Addr)) (fp : List Addr), PTs (X.blk s H scope (compEnvC scope cl C X.env) fp) ifs (tT X.prog X.w X.K t))
    (hi1 : ∀ (s : Shared) (H : Hp) (C : Addr) (cl : List (Str × Addr)) (fp : List Addr), PDI (X.blk s H scope (compEnvC scope cl C X.env) fp) tg1 iter1 ci1)
    (hg1 : ∀ (s : Shared) (H : Hp) (C : Addr) (cl : List (Str × Addr)) (fp : List Addr), PDG (X.blk s H scope (compEnvC scope cl C X.env) fp) tg1 ws1 g1) (ht1 : ∀ (s : Shared) (H : Hp) (C : Addr) (cl : List (Str × Addr)) (fp : List Addr), PTs (X.blk s H scope (compEnvC scope cl C X.env) fp) ifs1 (tT X.prog X.w X.K t1))
    (he : ∀ (s : Shared) (H : Hp) (C : Addr) (cl : List (Str × Addr)) (fp : List Addr), PD (X.blk s H scope (compEnvC scope cl C X.env) fp) elt e) (hs : ∀ x, foldedSetIterable iter X.env x = pure x := by intro _; rfl) (hs1 : ∀ env x, foldedSetIterable iter1 env x = pure x := by intro _ _; rfl) :
    PDS X (.Assign [.Name y py] (.ListComp elt [⟨tg, iter, ifs, 0⟩, ⟨tg1, iter1, ifs1, 0⟩] scope pos) spos) (sSet (gN i) (cLC (own.map (·.2)) bx ci (lt2 g t ci1 g1 t1 e vs1))) := by
  refine ps_imp (ps_setLc2 (wi1 := tI X.prog X.w X.K ci1) (g := tG X.prog X.w X.K ws g) (g1 := tG X.prog X.w X.K ws1 g1) (te := tD X.prog X.w X.K e) hc hN hy hyl hsw hi ok hv hg ht hi1 hg1 ht1 he hs hs1) fun E σ H ⟨B, ρ, S, f, hs, he, ef, k⟩ => ?_
  unfold sSet at ef
  split at ef
  · rename_i d S1 e1
    cases ef
    exact lc2_read hw hw1 ⟨B, ρ, S, d, S1, hs, he, e1, fun B' v H' st hs' r => k B' _ H' st hs' ((he.mono st).set r i)⟩
  · cases ef
end

/-! ### three at once -/
def sPar3 (i j l : Nat) (a : DA) : DS := fun ρ S => match a ρ S with
  | some ([x, y, z], S') => some (.nx (((ρ.set i (some x)).set j (some y)).set l (some z)) S')
  | _ => none
theorem pds_par3 {X : Cx} {i j l : Nat} {ta : DA} {s : Stmt} (h : PS X s (tPar3 i j l (tAs X.prog X.w X.K ta))) : PDS X s (sPar3 i j l ta) := ps_imp h fun E σ H ⟨B, ρ, S, f, hs, he, ef, k⟩ => by
  unfold sPar3 at ef
  split at ef
  · rename_i x y z S1 e1
    cases ef
    refine ⟨B, ρ, S, _, S1, hs, he, e1, fun B' vs H' st hs' r => ?_⟩
    cases r with
    | cons r1 r2 =>
      cases r2 with
      | cons r2 r3 =>
        cases r3 with
        | cons r3 r4 =>
          cases r4
          exact ⟨_, _, _, rfl, k B' _ H' st hs' ((((he.mono st).set r1 i).set r2 j).set r3 l)⟩
  · cases ef

/-! ### a cell's list changes -/
section
variable {P : Program} {w : World} {K : PySem.W.Frag} {B : Wd} {S : Store} {H : Hp} {k : Nat} {ds es : List D} {ys : List V}
theorem cell_put (hs : RS P w K B S H) (e : S[k]? = some (.lst ds)) (r : RVs K B S H ys es) :
    Stp B S H B (S.set k (.lst es)) (upd H (B k) (.lst ys)) ∧ RS P w K B (S.set k (.lst es)) (upd H (B k) (.lst ys)) := by
  have st : Stp B S H B (S.set k (.lst es)) (upd H (B k) (.lst ys)) := Stp.set hs e (by simp)
  exact ⟨st, hs.set e (by simp) ⟨ys, upd_same, RVs.mono st _ _ r⟩⟩
theorem cell_at (hs : RS P w K B S H) (e : S[k]? = some (.lst ds)) : ∃ xs, H (B k) = some (.lst xs) ∧ RVs K B S H xs ds := hs.cel k _ e
end
/-- a method of a cell's list: f by the cell, its list, the arguments -/
abbrev DM := Nat → List D → List D → Store → Option (D × Store)
def cM (f : DM) (o : DE) (a : DA) : DE := fun ρ S => match o ρ S with
  | some (.ref k, S1) => (match S1[k]? with
    | some (.lst _) => (match a ρ S1 with
      | some (xs, S2) => (match S2[k]? with
        | some (.lst ds) => f k ds xs S2
        | _ => none)
      | none => none)
    | _ => none)
  | _ => none
def OkM (P : Program) (w : World) (K : PySem.W.Frag) (r : V → List V → Hp → VK → Prop) (f : DM) : Prop :=
  ∀ B S H k ds xs dxs us d S' (Q : VK), RS P w K B S H → S[k]? = some (.lst ds) → H (B k) = some (.lst us) → RVs K B S H us ds → RVs K B S H xs dxs → f k ds dxs S = some (d, S') →
    (∀ B' v H', Stp B S H B' S' H' → RS P w K B' S' H' → RV K B' S' H' v d → Q v H') → r (.ref (B k)) xs H Q
def apnd : DM := fun k ds xs S => match xs with
  | [x] => if ds.length < sizeLine then some (.non, S.set k (.lst (ds ++ [x]))) else none
  | _ => none
def popM : DM := fun k ds xs S => match xs with
  | [] => (ds[ds.length - 1]?).map fun d => (d, S.set k (.lst ds.dropLast))
  | _ => none
def popAtM : DM := fun k ds xs S => match xs with
  | [.int i] => if -(2 ^ 63) ≤ i ∧ i < 2 ^ 63 then (match seqIndex? i ds.length with
    | some j => (ds[j]?).map fun d => (d, S.set k (.lst (ds.eraseIdx j)))
    | none => none) else none
  | _ => none
def extM : DM := fun k ds xs S => match xs with
  | [x] => (match asL S x with
    | some es => if ds.length + es.length ≤ sizeLine then some (.non, S.set k (.lst (ds ++ es))) else none
    | none => none)
  | _ => none
section
variable {P : Program} {w : World} {K : PySem.W.Frag}
theorem okm_append : OkM P w K rAppend apnd := by
  intro B S H k ds xs dxs us d S' Q hs ek hk ru rx e kk
  unfold apnd at e
  split at e
  · split at e
    · rename_i hl
      cases e
      obtain ⟨v, rfl, r⟩ := rx.one
      obtain ⟨h1, h2⟩ := cell_put hs ek (ru.append (.cons r .nil))
      exact ⟨_, us, v, rfl, rfl, hk, by rw [ru.length]; exact hl, kk B _ _ h1 h2 .non⟩
    · cases e
  · cases e
theorem okm_pop : OkM P w K rPop popM := by
  intro B S H k ds xs dxs us d S' Q hs ek hk ru rx e kk
  unfold popM at e
  split at e
  · obtain ⟨z, e1, e2⟩ := Option.map_eq_some_iff.mp e
    cases e2
    cases rx
    obtain ⟨v, hv, r⟩ := ru.get e1
    obtain ⟨h1, h2⟩ := cell_put hs ek ru.dropLast
    exact ⟨_, us, v, rfl, rfl, hk, by rw [ru.length]; exact hv, kk B _ _ h1 h2 (RV.mono h1 _ _ r)⟩
  · cases e
theorem okm_popAt : OkM P w K rPopAt popAtM := by
  intro B S H k ds xs dxs us d S' Q hs ek hk ru rx e kk
  unfold popAtM at e
  split at e
  · split at e
    · rename_i hb
      split at e
      · rename_i j hj
        obtain ⟨z, e1, e2⟩ := Option.map_eq_some_iff.mp e
        cases e2
        obtain ⟨u, rfl, r1⟩ := rx.one
        cases r1.intI
        obtain ⟨v, hv, r⟩ := ru.get e1
        obtain ⟨h1, h2⟩ := cell_put hs ek (ru.erase j)
        exact ⟨_, us, _, j, v, rfl, rfl, hk, hb.1, hb.2, by rw [ru.length]; exact hj, hv, kk B _ _ h1 h2 (RV.mono h1 _ _ r)⟩
      · cases e
    · cases e
  · cases e
end
theorem pd_m {X : Cx} {o e : Expr} {es : List Expr} {co : DE} {ca : DA} {name : Str} {apos cpos : Pos} {id : String} {r : V → List V → Hp → VK → Prop} {f : DM} (slot : Slot "list" name id) (hty : typeOf (.builtin id) = pure (.type "method_descriptor")) (hm : MtR X id r) (hf : OkM X.prog X.w X.K r f) (ho : PD X o co) (ha : PDA X (e :: es) ca)
    (hbase : attributeBase o name X.env (eval o X.env) = eval o X.env := by rfl)
    (hfew : ((backTo cpos (starEach (e :: es) X.env)).all (fun x => !x.1) && (backToKw cpos (keywordEach [] X.env)).all (fun x => x.1.isSome)
      && decide ((e :: es).length + ([] : List Keyword).length + (if ([] : List Keyword).isEmpty then 0 else 1) < 30)) = true := by rfl)
    (hline : (apos.endLine == cpos.line) = true := by rfl) (hs : starEach (e :: es) X.env = (false, eval e X.env) :: starEach es X.env := by rfl) (hplain : (backTo cpos (starEach es X.env)).any (·.1) = false := by rfl) :
    PD X (.Call (.Attribute o name apos) (e :: es) [] cpos) (cM f co ca) :=
  pe_imp (pe_bm F.plainAttrs_list slot hty hm ho ha hbase hfew hline hs hplain) fun σ H Q ⟨B, ρ, S, d, S', hs, he, e, k⟩ => by
    unfold cM at e
    split at e
    · rename_i j S1 e1
      split at e
      · rename_i us hj
        split at e
        · rename_i xs S2 e2
          split at e
          · rename_i ds hd
            refine ⟨B, ρ, S, _, S1, hs, he, e1, fun B1 v1 H1 st1 hs1 r1 => ?_⟩
            cases r1 with
            | ref lt =>
              obtain ⟨vs, hv, _⟩ := cell_at hs1 hj
              refine ⟨.inl ⟨rfl, vs, SqL.of hv⟩, B1, ρ, S1, xs, S2, hs1, he.mono st1, e2, fun B2 ys H2 st2 hs2 r2 => ?_⟩
              obtain ⟨ws, hw, rw'⟩ := cell_at hs2 hd
              rw [← st2.agr j lt]
              exact hf B2 S2 H2 j ds ys xs ws d S' Q hs2 hd hw rw' r2 e fun B3 v3 H3 st3 hs3 r3 => k B3 v3 H3 ((st1.trans st2).trans st3) hs3 r3
          · cases e
        · cases e
      · cases e
    · cases e
theorem pd_m0 {X : Cx} {o : Expr} {co : DE} {name : Str} {apos cpos : Pos} {id : String} {r : V → List V → Hp → VK → Prop} {f : DM} (slot : Slot "list" name id) (hty : typeOf (.builtin id) = pure (.type "method_descriptor")) (hm : MtR X id r) (hf : OkM X.prog X.w X.K r f) (ho : PD X o co)
    (hbase : attributeBase o name X.env (eval o X.env) = eval o X.env := by rfl) (hline : (apos.endLine == cpos.line) = true := by rfl) : PD X (.Call (.Attribute o name apos) [] [] cpos) (cM f co cNil) :=
  pe_imp (pe_bm0 F.plainAttrs_list slot hty hm ho hbase hline) fun σ H Q ⟨B, ρ, S, d, S', hs, he, e, k⟩ => by
    unfold cM at e
    split at e
    · rename_i j S1 e1
      split at e
      · rename_i us hj
        unfold cNil at e
        simp only at e
        split at e
        · rename_i ds hd
          refine ⟨B, ρ, S, _, S1, hs, he, e1, fun B1 v1 H1 st1 hs1 r1 => ?_⟩
          cases r1 with
          | ref lt =>
            obtain ⟨vs, hv, rv⟩ := cell_at hs1 hd
            refine ⟨.inl ⟨rfl, vs, SqL.of hv⟩, ?_⟩
            exact hf B1 S1 H1 j ds [] [] vs d S' Q hs1 hd hv rv .nil e fun B3 v3 H3 st3 hs3 r3 => k B3 v3 H3 (st1.trans st3) hs3 r3
        · cases e
      · cases e
    · cases e
section
variable {X : Cx} {o e : Expr} {es : List Expr} {co : DE} {ca : DA} {apos cpos : Pos}
theorem pd_append (ho : PD X o co) (ha : PDA X [e] ca)
    (hbase : attributeBase o "append" X.env (eval o X.env) = eval o X.env := by rfl)
    (hfew : ((backTo cpos (starEach [e] X.env)).all (fun x => !x.1) && (backToKw cpos (keywordEach [] X.env)).all (fun x => x.1.isSome)
      && decide ([e].length + ([] : List Keyword).length + (if ([] : List Keyword).isEmpty then 0 else 1) < 30)) = true := by rfl)
    (hline : (apos.endLine == cpos.line) = true := by rfl) (hs : starEach [e] X.env = (false, eval e X.env) :: starEach [] X.env := by rfl) (hplain : (backTo cpos (starEach [] X.env)).any (·.1) = false := by rfl) :
    PD X (.Call (.Attribute o "append" apos) [e] [] cpos) (cM apnd co ca) := pd_m F.slot_list_append F.type_list_append mt_append okm_append ho ha hbase hfew hline hs hplain
theorem pd_pop (ho : PD X o co)
    (hbase : attributeBase o "pop" X.env (eval o X.env) = eval o X.env := by rfl) (hline : (apos.endLine == cpos.line) = true := by rfl) : PD X (.Call (.Attribute o "pop" apos) [] [] cpos) (cM popM co cNil) := pd_m0 F.slot_list_pop F.type_list_pop mt_pop okm_pop ho hbase hline
theorem pd_popAt (ho : PD X o co) (ha : PDA X [e] ca)
    (hbase : attributeBase o "pop" X.env (eval o X.env) = eval o X.env := by rfl)
    (hfew : ((backTo cpos (starEach [e] X.env)).all (fun x => !x.1) && (backToKw cpos (keywordEach [] X.env)).all (fun x => x.1.isSome)
      && decide ([e].length + ([] : List Keyword).length + (if ([] : List Keyword).isEmpty then 0 else 1) < 30)) = true := by rfl)
    (hline : (apos.endLine == cpos.line) = true := by rfl) (hs : starEach [e] X.env = (false, eval e X.env) :: starEach [] X.env := by rfl) (hplain : (backTo cpos (starEach [] X.env)).any (·.1) = false := by rfl) :
    PD X (.Call (.Attribute o "pop" apos) [e] [] cpos) (cM popAtM co ca) := pd_m F.slot_list_pop F.type_list_pop mt_popAt okm_popAt ho ha hbase hfew hline hs hplain
end

/-! ### xs[i] = v, xs[i] op= v -/
def setAt (k : Nat) (i : Int) (v : D) (S : Store) : Option Store := match S[k]? with
  | some (.lst ds) => (match ixN ds.length i with
    | some j => some (S.set k (.lst (ds.set j v)))
    | none => none)
  | _ => none
def sSetIx (o i v : DE) : DS := fun ρ S => match v ρ S with
  | some (d, S1) => (match o ρ S1 with
    | some (.ref k, S2) => (match i ρ S2 with
      | some (.int n, S3) => (match setAt k n d S3 with
        | some S4 => some (.nx ρ S4)
        | none => none)
      | _ => none)
    | _ => none)
  | none => none
theorem setAt_ok {P : Program} {w : World} {K : PySem.W.Frag} {B : Wd} {S S' : Store} {H : Hp} {k : Nat} {i : Int} {v : V} {d : D} {Q : Hp → Prop} (hs : RS P w K B S H) (r : RV K B S H v d) (e : setAt k i d S = some S') (q : ∀ H', Stp B S H B S' H' → RS P w K B S' H' → Q H') : rSetL (.ref (B k)) (.int i) v H Q := by
  unfold setAt at e
  split at e
  · rename_i ds hd
    split at e
    · rename_i j hj
      cases e
      obtain ⟨us, hu, ru⟩ := cell_at hs hd
      obtain ⟨h1, h2⟩ := cell_put hs hd (ru.set r j)
      exact ⟨_, us, i, j, rfl, rfl, hu, by rw [ru.length]; exact hj, q _ h1 h2⟩
    · cases e
  · cases e
theorem pds_setIx {X : Cx} {o i e : Expr} {co ci ce : DE} {pos tpos : Pos} (ho : PD X o co) (hi : PD X i ci) (he : PD X e ce)
    (ha : ∀ v, assign (.Subscript o i tpos) X.env v = (do
      let ov ← holding [v] (eval o X.env)
      let iv ← holding [v, ov] (eval i X.env)
      standAt tpos
      holding [v, ov, iv] (setItem ov iv v)
      release [v, ov, iv] []) := by intro _; rfl) (hs : swapsWithSole [.Subscript o i tpos] e pos.line X.env = pure false := by rfl) (hw : swappedStores [.Subscript o i tpos] e X.env = pure none := by rfl)
    (h1 : (assignEach [.Subscript o i tpos] X.env).map (·.2) = [assign (.Subscript o i tpos) X.env] := by rfl) : PDS X (.Assign [.Subscript o i tpos] e pos) (sSetIx co ci ce) :=
  ps_imp (ps_asg he (pg_sub ho hi set_list ha) hs hw h1) fun E σ H ⟨B, ρ, S, f, hs, he, ef, k⟩ => by
    unfold sSetIx at ef
    split at ef
    · rename_i d S1 e1
      split at ef
      · rename_i j S2 e2
        split at ef
        · rename_i n S3 e3
          split at ef
          · rename_i S4 e4
            cases ef
            refine ⟨B, ρ, S, d, S1, hs, he, e1, fun B1 v1 H1 st1 hs1 r1 => ⟨B1, ρ, S1, _, S2, hs1, he.mono st1, e2, fun B2 v2 H2 st2 hs2 r2 => ⟨B2, ρ, S2, _, S3, hs2, he.mono (st1.trans st2), e3, fun B3 v3 H3 st3 hs3 r3 => ?_⟩⟩⟩
            cases r3.intI
            cases r2 with
            | ref lt =>
              rw [← st3.agr j lt]
              exact setAt_ok hs3 (RV.mono (st2.trans st3) _ _ r1) e4 fun H' st hs' => k B3 σ H' (((st1.trans st2).trans st3).trans st) hs' (he.mono (((st1.trans st2).trans st3).trans st))
          · cases ef
        · cases ef
      · cases ef
    · cases ef
/-- a list's item, as the augmented assignment reads it -/
def rGetL : V → V → Hp → VK → Prop := fun o i H Q => ∃ p xs k v, o = .ref p ∧ i = .int k ∧ H p = some (.lst xs) ∧ L2.atI xs k = some v ∧ Q v H
theorem get_list {X : Cx} : PGet X rGetL := by
  intro pins s σ H x y v u Q I rx ry h
  obtain ⟨p, xs, i, z, rfl, rfl, hq, he, q⟩ := h
  cases rx
  obtain ⟨t, rfl⟩ := ry
  obtain ⟨its, r, pl, hz⟩ := I.list (SqL.of hq)
  obtain ⟨j, h1, h2, h3, h4, h5⟩ := atI_get he
  obtain ⟨w, ew, rw'⟩ := r.get h2
  have hl := r.length
  have hn := line63
  have fin : EP X pins σ Q w s := ⟨z, H, I, rw', q⟩
  by_cases h0 : 0 ≤ i
  · have hj : i.toNat = j := by
      rw [seqIndex_of h0 h5] at h1
      exact Option.some.inj h1
    exact wpAny_getItem_list pl.isList h0 (by omega) (by rw [hj]; simpa using ew) fin
  · have hj : (i + (its.toArray.size : Int)).toNat = j := by
      rw [seqIndex_neg (by omega) h4] at h1
      rw [List.size_toArray, ← hl]
      exact Option.some.inj h1
    exact wpAny_getItem_list_neg pl.isList (by omega) (by rw [List.size_toArray] <;> omega) (by omega) (by rw [hj]; simpa using ew) fin
def sAugIx (f : D → D → Store → Option (D × Store)) (o i v : DE) : DS := fun ρ S => match o ρ S with
  | some (.ref k, S1) => (match i ρ S1 with
    | some (.int n, S2) => (match S2[k]? with
      | some (.lst ds) => (match L2.atI ds n with
        | some x => (match v ρ S2 with
          | some (y, S3) => (match f x y S3 with
            | some (z, S4) => (match setAt k n z S4 with
              | some S5 => some (.nx ρ S5)
              | none => none)
            | none => none)
          | none => none)
        | none => none)
      | _ => none)
    | _ => none)
  | _ => none
theorem pds_augIx {X : Cx} {o i e : Expr} {co ci ce : DE} {pos tpos : Pos} {op : Operator} {r : R2} {f : D → D → Store → Option (D × Store)} (hop : OpR X (inplaceOp op) r) (hf : Ok2 X.prog X.w X.K r f) (ho : PD X o co) (hi : PD X i ci) (he : PD X e ce)
    (ha : ∀ ov iv new, augStore i ov iv new = (do holding [new, ov, iv] (setItem ov iv new); release [new, ov, iv] []; pure .next) := by intros; rfl) : PDS X (.AugAssign (.Subscript o i tpos) op e pos) (sAugIx f co ci ce) :=
  ps_imp (ps_augS ho hi get_list he (fun pins s σ H x y v u Q I rx ry q => hop pins s σ H x y v u Q I rx ry q) set_list ha) fun E σ H ⟨B, ρ, S, fl, hs, he, ef, k⟩ => by
    unfold sAugIx at ef
    split at ef
    · rename_i j S1 e1
      split at ef
      · rename_i n S2 e2
        split at ef
        · rename_i ds hd
          split at ef
          · rename_i x hx
            split at ef
            · rename_i y S3 e3
              split at ef
              · rename_i z S4 e4
                split at ef
                · rename_i S5 e5
                  cases ef
                  refine ⟨B, ρ, S, _, S1, hs, he, e1, fun B1 v1 H1 st1 hs1 r1 => ⟨B1, ρ, S1, _, S2, hs1, he.mono st1, e2, fun B2 v2 H2 st2 hs2 r2 => ?_⟩⟩
                  cases r2.intI
                  cases r1 with
                  | ref lt =>
                    obtain ⟨us, hu, ru⟩ := cell_at hs2 hd
                    obtain ⟨v, hv, rv⟩ := ru.atI hx
                    have lt2 := Nat.lt_of_lt_of_le lt st2.len
                    refine ⟨_, us, n, v, by rw [← st2.agr j lt], rfl, hu, hv, B2, ρ, S2, y, S3, hs2, he.mono (st1.trans st2), e3, fun B3 v3 H3 st3 hs3 r3 => ?_⟩
                    refine hf B3 S3 H3 v v3 x y z S4 _ hs3 (RV.mono st3 _ _ rv) r3 e4 fun B4 v4 H4 st4 hs4 r4 => ?_
                    have ea : B1 j = B4 j := by
                      rw [(st3.trans st4).agr j lt2, st2.agr j lt]
                    rw [ea]
                    exact setAt_ok hs4 r4 e5 fun H' st hs' => k B4 σ H' ((((st1.trans st2).trans st3).trans st4).trans st) hs' (he.mono ((((st1.trans st2).trans st3).trans st4).trans st))
                · cases ef
              · cases ef
            · cases ef
          · cases ef
        · cases ef
      · cases ef
    · cases ef

/-! ### (x,) * n -/
theorem tuple_mul1 (l : Addr) (items : Array Value) (n : Nat) (sl : Array (Option Value)) (x : Int) (u : Tok) (dd : Option Addr) (hx : x = 1) :
    Meets (Builtin.«tuple.__mul__» ⟨[.ref l, .int x u], []⟩) (fun _ R s => s.heap.get? l = some { cls := .type "tuple", dict := dd, data := .seq items n, slots := sl } ∧ R (.ok (.ret (.ref l))) s) :=
  .of_wp fun prog w A R s h => by
    subst hx
    obtain ⟨hp, g, d, tk, os⟩ := s
    obtain ⟨hl, h⟩ := h
    have f1 := AutoSeq1.idx_int
    have c0 : (decide ((1 : Int) < -(2 ^ 63)) || decide ((1 : Int) ≥ 2 ^ 63)) = false := by decide
    have c1 : (items.isEmpty || (1 : Int) == 1) = true := by simp
    wp_walk using wpAny_loadPart' hl
    repeat (first
      | (refine wpAny_ite_false (decide_eq_false (by rw [c0]; exact Bool.false_ne_true)) ?_; wp_walk using wpAny_loadPart' hl)
      | (refine wpAny_ite_true (decide_eq_true c1) ?_; wp_walk using wpAny_loadPart' hl))
    exact ⟨_, rfl, h⟩
def rRep1 (K : PySem.W.Frag) : R2 := fun x y H Q => ∃ l xs, x = .ref l ∧ y = .int 1 ∧ SqT K H l xs ∧ Q (.ref l) H
theorem op_rep1 {X : Cx} : OpR X (binaryOp .Mult) (rRep1 X.K) := by
  intro pins s σ H x y v u Q I rx ry h
  obtain ⟨l, xs, rfl, rfl, hT, q⟩ := h
  cases rx
  obtain ⟨t, rfl⟩ := ry
  obtain ⟨its, r, ⟨⟨cls, dd, data, sl⟩, ho, hc, n, hd⟩, hs⟩ := I.tuple hT
  simp only at hc hd
  subst hc hd
  exact wpAny_binaryOp_repeat_ref (T := "tuple") (U := "int") (by decide) ⟨_, ho, rfl⟩ (fun s' => typeIs_int s' 1 t) noFill_tuple_mul F.fills_int_mul F.slot_int_rmul repeat_tuple F.slot_int_index.lookup
    (call_meets F.slot_int_rmul (typeIs_int s 1 t) F.entry_int_rmul (F.args_int_rmul_2 _ _) (int_rmul_tuple 1 t l its.toArray n dd sl)
      ⟨ho, rfl, ⟨_, ho, rfl⟩, call_meets F.slot_tuple_mul ⟨_, ho, rfl⟩ F.entry_tuple_mul (F.args_tuple_mul_2 _ _) (tuple_mul1 l its.toArray n sl 1 t dd rfl) ⟨ho, ⟨.ref l, H, I, rfl, q⟩⟩⟩)
def repD : D → D → Store → Option (D × Store) := fun x y S => match x, y with
  | .tup xs, .int k => if xs ≠ [] ∧ xs.length ≤ 1000 ∧ 1 ≤ k ∧ k ≤ 1000 then some (.tup (List.replicate k.toNat xs).flatten, S) else none
  | _, _ => none
theorem ok_rep {P : Program} {w : World} {K : PySem.W.Frag} : Ok2 P w K (fun x y H Q => rRepT K x y H Q ∨ rRep1 K x y H Q) repD := by
  intro B S H x y dx dy d S' Q hs rx ry e k
  unfold repD at e
  split at e
  · split at e
    · rename_i xs n hc
      obtain ⟨hc1, hc2, hc3, hc4⟩ := hc
      cases e
      obtain ⟨a, us, rfl, ha, ru⟩ := id rx.tupI
      cases ry.intI
      by_cases h1 : n = 1
      · subst h1
        refine .inr ⟨a, us, rfl, rfl, ha, k B _ H (Stp.refl ..) hs ?_⟩
        have e : (List.replicate (1 : Int).toNat xs).flatten = xs := by simp
        rw [e]
        exact rx
      · refine .inl ⟨a, n, us, rfl, rfl, ha, ?_, by omega, hc4, by rw [ru.length]; exact hc2, fun p hp => k B _ _ (Stp.new hs hp) (hs.new hp) (RV.newTup hs hp (ru.rep _))⟩
        rintro rfl
        cases ru
        exact hc1 rfl
    · cases e
  · cases e
theorem pd_rep {X : Cx} {a b : Expr} {ca cb : DE} {pos : Pos} (ha : PD X a ca) (hb : PD X b cb) : PD X (.BinOp a .Mult b pos) (cBin repD ca cb) := pd_op (OpR.or op_repT op_rep1) ok_rep ha hb
theorem pd_glob {X : Cx} {x : Str} {i : Int} {u : Value} {pos : Pos} (hg : Gl X x) (hm : X.mg x = some u) (r : RelV (.int i) u) (hd : (x == ("__debug__" : Str)) = false := by decide) : PD X (.Name x pos) (cC (.int i)) :=
  pd_const (pe_glob hg hm r hd) fun _ _ _ => .int i
end DL

/-! Dicts: by ints and texts, by nested tuples. -/
namespace DL
open PySem PySem.Spec PyProof.Rows L2

def keyK : D → Option Key
  | .int i => some (.inl i)
  | .str x => some (.inr x)
  | _ => none
def kLook (kvs : List (Key × D)) (k : Key) : Option D := (kvs.find? fun kv => decide (kv.1 = k)).map (·.2)
def kPut (kvs : List (Key × D)) (k : Key) (v : D) : List (Key × D) :=
  if (kvs.any fun kv => decide (kv.1 = k)) = true then kvs.map (fun kv => if kv.1 = k then (kv.1, v) else kv) else kvs ++ [(k, v)]
/-- the entry; none outside: not covered -/
def lookD (S : Store) (x y : D) : Option (Option D) := match x with
  | .ref k => (match S[k]? with
    | some (.dK _ kvs) => (keyK y).map fun q => kLook kvs q
    | some (.dN _ kvs) => if okTup y = true then some (dLook kvs y) else none
    | _ => none)
  | _ => none
def putD (S : Store) (x y v : D) : Option Store := match x with
  | .ref k => (match S[k]? with
    | some (.dK false kvs) => (match keyK y with
      | some q => if kvs.length < sizeLine then some (S.set k (.dK false (kPut kvs q v))) else none
      | none => none)
    | some (.dN false kvs) => if okTup y = true ∧ kvs.length < sizeLine then some (S.set k (.dN false (dPut kvs y v))) else none
    | _ => none)
  | _ => none

section
variable (K : PySem.W.Frag) (B : Wd) (S : Store) (H : Hp)
def LkV (o : Option V) : Option D → Prop
  | some d => ∃ v, o = some v ∧ RV K B S H v d
  | none => o = none
def LkN (xs : List (NestedKey × Addr × Value)) (k : NestedKey) : Option D → Prop
  | some d => ∃ p v, atKey xs k = some p ∧ RelV v p.2 ∧ RV K B S H v d
  | none => atKey xs k = none
end
section
variable {P : Program} {w : World} {K : PySem.W.Frag} {B : Wd} {S : Store} {H : Hp}
theorem krel_look (k : Key) : ∀ {kxs : List (Key × V)} {kvs : List (Key × D)}, KRel K B S H kxs kvs → LkV K B S H (valV kxs k) (kLook kvs k)
  | _, _, .nil => rfl
  | _, _, .cons (a := p) (b := q) (l₁ := l1) (l₂ := l2) r t => by
    have ih := krel_look k t
    by_cases e : q.1 = k
    · have e1 : kLook (q :: l2) k = some q.2 := by simp [kLook, e]
      rw [e1]
      exact ⟨p.2, valV_pos (r.1.trans e), r.2⟩
    · have e1 : kLook (q :: l2) k = kLook l2 k := by simp [kLook, e]
      rw [e1, valV_neg (fun z => e (r.1.symm.trans z))]
      exact ih
theorem krel_any (k : Key) : ∀ {kxs : List (Key × V)} {kvs : List (Key × D)}, KRel K B S H kxs kvs → (kxs.any fun kv => decide (kv.1 = k)) = (kvs.any fun kv => decide (kv.1 = k))
  | _, _, .nil => rfl
  | _, _, .cons r t => by
    rw [List.any_cons, List.any_cons, krel_any k t, r.1]
theorem paired_len {α β : Type} {F : α → β → Prop} : ∀ {l : List α} {m : List β}, Paired F l m → l.length = m.length
  | _, _, .nil => rfl
  | _, _, .cons _ t => by simp [paired_len t]
theorem krel_put {v : V} {d : D} (k : Key) (r : RV K B S H v d) {kxs : List (Key × V)} {kvs : List (Key × D)} (h : KRel K B S H kxs kvs) : KRel K B S H (putK kxs k v) (kPut kvs k d) := by
  unfold putK kPut
  rw [krel_any k h]
  split
  · rename_i hany
    clear hany
    unfold KRel at h ⊢
    induction h with
    | nil => exact .nil
    | @cons p q l1 l2 hh t ih =>
      rw [List.map_cons, List.map_cons]
      refine .cons ?_ ih
      obtain ⟨h1, h2⟩ := hh
      by_cases e : q.1 = k
      · rw [if_pos (h1.trans e), if_pos e]
        exact ⟨h1, r⟩
      · rw [if_neg (fun z => e (h1.symm.trans z)), if_neg e]
        exact ⟨h1, h2⟩
  · exact Paired.snoc h ⟨rfl, r⟩
theorem nrel_look (k : D) : ∀ {kvs : List (D × D)} {xs : List (NestedKey × Addr × Value)}, NRel K B S H kvs xs → LkN K B S H xs (keyD k) (dLook kvs k)
  | _, _, .nil => rfl
  | _, _, .cons (a := p) (b := q) (l₁ := l1) (l₂ := l2) r t => by
    have ih := nrel_look k t
    obtain ⟨h1, h2, h3, v, h4, h5⟩ := r
    by_cases e : keyD p.1 = keyD k
    · have e1 : dLook (p :: l1) k = some p.2 := by simp [dLook, e]
      rw [e1]
      exact ⟨q.2, v, by simp [atKey, h2.trans e], h4, h5⟩
    · have e1 : dLook (p :: l1) k = dLook l1 k := by simp [dLook, e]
      have hn : ¬ q.1 = keyD k := fun z => e (h2.symm.trans z)
      have e2 : atKey (q :: l2) (keyD k) = atKey l2 (keyD k) := by simp [atKey, List.find?_cons, hn]
      have e3 : LkN K B S H (q :: l2) (keyD k) = LkN K B S H l2 (keyD k) := by
        funext od
        cases od with
        | none => show (atKey _ _ = none) = (atKey _ _ = none); rw [e2]
        | some d => show (∃ p v, atKey _ _ = some p ∧ _) = (∃ p v, atKey _ _ = some p ∧ _); rw [e2]
      rw [e1, e3]
      exact ih
theorem nrel_map {u : Value} {v : V} {d k : D} (r : RV K B S H v d) (ru : RelV v u) {kvs : List (D × D)} {xs : List (NestedKey × Addr × Value)} (h : NRel K B S H kvs xs) :
    NRel K B S H (kvs.map fun p => if keyD p.1 = keyD k then (p.1, d) else p) (xs.map (putAt (keyD k) u)) := by
  unfold NRel at h ⊢
  induction h with
  | nil => exact .nil
  | @cons p q l1 l2 hh t ih =>
    rw [List.map_cons, List.map_cons]
    refine .cons ?_ ih
    obtain ⟨h1, h2, h3, h4⟩ := hh
    by_cases e : keyD p.1 = keyD k
    · rw [if_pos e, putAt, if_pos (h2.trans e)]
      exact ⟨h1, h2, h3, v, ru, r⟩
    · rw [if_neg e, putAt, if_neg (fun z => e (h2.symm.trans z))]
      exact ⟨h1, h2, h3, h4⟩
theorem nrel_put {b : Addr} {u : Value} {v : V} {d k : D} (r : RV K B S H v d) (ru : RelV v u) (hk : okTup k = true) (rb : RV K B S H (.ref b) k) {kvs : List (D × D)} {xs : List (NestedKey × Addr × Value)} (h : NRel K B S H kvs xs) :
    NRel K B S H (dPut kvs k d) (storedH xs (keyD k) b u) := by
  have hl := nrel_look k h
  unfold dPut storedH
  cases e : dLook kvs k with
  | none =>
    rw [e] at hl
    rw [hl]
    exact Paired.snoc h ⟨hk, rfl, rb, v, ru, r⟩
  | some z =>
    rw [e] at hl
    obtain ⟨p0, _, hp, _⟩ := hl
    rw [hp]
    simp only [Option.isSome_some, if_true]
    exact nrel_map r ru h
end

section
variable {X : Cx} {pins : List (Addr × Obj)} {σ : L2.St} {s : Shared} {B : Wd} {S : Store} {H : Hp}
mutual
theorem nested_of (I : Inv X pins σ H s) : ∀ (d : D) (v : V) (u : Value), RV X.K B S H v d → okKey d = true → RelV v u → NestedIs s.heap (keyD d) u
  | .non, _, _, r, _, q => by cases r; cases q; exact .none
  | .int i, _, _, r, _, q => by cases r; obtain ⟨t, rfl⟩ := q; exact .int i t
  | .str x, _, _, r, _, q => by cases r; obtain ⟨t, rfl⟩ := q; exact .text x t
  | .bl _, _, _, _, k, _ => by cases k
  | .lst _, _, _, _, k, _ => by cases k
  | .scr _, _, _, _, k, _ => by cases k
  | .ref _, _, _, _, k, _ => by cases k
  | .tup ds, v, u, r, k, q => by
    have k' : okKeys ds = true := k
    have z : ∃ a xs, SqT X.K H a xs ∧ RVs X.K B S H xs ds ∧ v = V.ref a := by
      cases r with
      | tup e n r => exact ⟨_, _, SqT.of e, r, rfl⟩
      | tupK e r => exact ⟨_, _, e H, r, rfl⟩
    obtain ⟨a, xs, hq, rr, e⟩ := z
    subst e
    cases q
    obtain ⟨its, rv, ⟨o, ho, hc, n, hd⟩, _⟩ := I.tuple hq
    exact .tup ho hc hd (by simpa using nesteds_of I ds xs its rr k' rv)
theorem nesteds_of (I : Inv X pins σ H s) : ∀ (ds : List D) (vs : List V) (us : List Value), RVs X.K B S H vs ds → okKeys ds = true → Vals vs us → NestedAll s.heap (keyDs ds) us
  | [], _, _, r, _, q => by cases r; cases q; exact .nil
  | d :: ds, _, _, r, k, q => by
    have k' : (okKey d && okKeys ds) = true := k
    rw [Bool.and_eq_true] at k'
    cases r with
    | cons r1 r2 =>
      cases q with
      | cons q1 q2 => exact .cons (nested_of I d _ _ r1 k'.1 q1) (nesteds_of I ds _ _ r2 k'.2 q2)
end
theorem key_is (I : Inv X pins σ H s) {d : D} {v : V} {u : Value} (r : RV X.K B S H v d) (k : okTup d = true) (q : RelV v u) : ∃ b, u = .ref b ∧ v = .ref b ∧ (nestedKind X.prog X.w).is s.heap (keyD d) b := by
  cases d with
  | tup ds =>
    have k' : (okKeys ds && decide ((keyD (.tup ds)).depth ≤ 8)) = true := k
    rw [Bool.and_eq_true] at k'
    have z : ∃ a, v = .ref a := by cases r <;> exact ⟨_, rfl⟩
    obtain ⟨a, rfl⟩ := z
    cases q
    exact ⟨a, rfl, rfl, nested_of I _ _ _ r (show okKeys ds = true from k'.1) rfl, of_decide_eq_true k'.2⟩
  | _ => cases k
theorem ndict_of (I : Inv X pins σ H s) {a : Addr} {o : Obj} {xs : List (NestedKey × Addr × Value)} {kvs : List (D × D)} (h : H a = some (isO a o)) (n : NObj X.prog X.w o xs) (r : NRel X.K B S H kvs xs) : s.heap.DictOfH (nestedKind X.prog X.w) a xs := by
  obtain ⟨n1, ⟨es, ep, n2, n3⟩, n4⟩ := n
  have ho : s.heap.get? a = some o := (show ObjOk X.prog X.w H s.heap a (isO a o) from I.hok a _ h).1
  refine ⟨o, es, ep, ho, n1, n2, n3, fun x hx => ?_, n4⟩
  clear n2 n3 n4
  unfold NRel at r
  induction r with
  | nil => cases hx
  | @cons p q l1 l2 hh t ih =>
    rcases List.mem_cons.mp hx with e | hx
    · subst e
      obtain ⟨h1, h2, h3, _⟩ := hh
      obtain ⟨b, e1, e2, h4⟩ := key_is I (u := .ref x.2.1) h3 h1 rfl
      cases e1
      rw [h2]
      exact h4
    · exact ih hx
theorem keyK_v {y : V} {dy : D} {q : Key} (r : RV X.K B S H y dy) (e : keyK dy = some q) : y = kV q := by
  cases r <;> first
    | (cases e; rfl)
    | cases e
theorem lookD_inv {S : Store} {x y : D} {od : Option D} (e : lookD S x y = some od) : ∃ k, x = .ref k ∧ ((∃ lk kvs q, S[k]? = some (.dK lk kvs) ∧ keyK y = some q ∧ od = kLook kvs q) ∨ (∃ lk kvs, S[k]? = some (.dN lk kvs) ∧ okTup y = true ∧ od = dLook kvs y)) := by
  unfold lookD at e
  split at e
  · rename_i k
    refine ⟨k, rfl, ?_⟩
    split at e
    · rename_i lk kvs ek
      obtain ⟨q, e1, e2⟩ := Option.map_eq_some_iff.mp e
      exact .inl ⟨lk, kvs, q, ek, e1, e2.symm⟩
    · rename_i lk kvs ek
      split at e
      · rename_i hk
        cases e
        exact .inr ⟨lk, kvs, ek, hk, rfl⟩
      · cases e
    · cases e
  · cases e
/-- the two kinds of dict -/
theorem look_cases (I : Inv X pins σ H s) (hs : RS X.prog X.w X.K B S H) {x y : V} {dx dy : D} {od : Option D} {u iv : Value} (rx : RV X.K B S H x dx) (ry : RV X.K B S H y dy) (e : lookD S dx dy = some od) (ru : RelV x u) (rv : RelV y iv) :
    ∃ a, u = .ref a ∧ x = .ref a ∧ (a == sysModules) = false ∧ s.TypeIs (.ref a) "dict" ∧ (∀ b, Value.ref a = .ref b → ∃ ob, s.heap.get? b = some ob ∧ ob.dict = none) ∧
      ((∃ o, DGet H a y o ∧ LkV X.K B S H o od) ∨
      (∃ b k xs, iv = .ref b ∧ (nestedKind X.prog X.w).is s.heap k b ∧ s.heap.DictOfH (nestedKind X.prog X.w) a xs ∧ LkN X.K B S H xs k od)) := by
  obtain ⟨k, rfl, g⟩ := lookD_inv e
  cases rx with
  | ref lt =>
    cases ru
    rcases g with ⟨lk, kvs, q, ek, e1, rfl⟩ | ⟨lk, kvs, ek, hk, rfl⟩
    · obtain ⟨kxs, hr, hH⟩ := hs.cel k _ ek
      have rd : Rd H (B k) (.dK kxs) := by
        cases lk with
        | true => simp only [if_true] at hH; exact .inr hH
        | false => simp only [Bool.false_eq_true, if_false] at hH; exact .inl hH
      obtain ⟨z, hd, vs, rel, dd⟩ := dk_rd I.hok rd
      have g : DGet H (B k) y (valV kxs q) := .inl ⟨kxs, q, rd, keyK_v ry e1, rfl⟩
      exact ⟨_, rfl, rfl, hd, dd.typeIs, dict_noDict I g, .inl ⟨_, g, krel_look q hr⟩⟩
    · obtain ⟨o, xs, h1, h2, h3, h4, h5⟩ := hs.cel k _ ek
      obtain ⟨b, e1, e2, h6⟩ := key_is I ry hk rv
      have dd := ndict_of I h1 h4 h5
      refine ⟨_, rfl, rfl, h2, dd.typeIs, fun b q => ?_, .inr ⟨b, _, xs, e1, h6, dd, nrel_look dy h5⟩⟩
      cases q
      obtain ⟨ob, _, _, g1, g2, _⟩ := dd
      exact ⟨ob, g1, g2.2.1⟩
theorem room_in1 {A : Around} (hu : A.units + 64 < cLine) : (nestedKind X.prog X.w).room A.in1 := by
  show A.units + 1 + 8 < cLine
  omega
end
def dGetD : D → D → Store → Option (D × Store) := fun x y S => match lookD S x y with
  | some (some d) => some (d, S)
  | _ => none
def dInD : D → D → Store → Option (D × Store) := fun y x S => (lookD S x y).map fun o => (.bl o.isSome, S)
def dNotInD : D → D → Store → Option (D × Store) := fun y x S => (lookD S x y).map fun o => (.bl (!o.isSome), S)
section
variable {X : Cx} {o i : Expr} {pos : Pos} {co ci : DE}
/-- what the two values' readings leave -/
def LkR (P : Program) (w : World) (K : PySem.W.Frag) (f : Store → D → D → Option (D × Store)) : R2 := fun x y H Q => ∃ B S dx dy d S', RS P w K B S H ∧ RV K B S H x dx ∧ RV K B S H y dy ∧ f S dx dy = some (d, S') ∧ ∀ B' v H', Stp B S H B' S' H' → RS P w K B' S' H' → RV K B' S' H' v d → Q v H'
theorem pd_dget (hu : X.A.units + 64 < cLine) (ho : PD X o co) (hi : PD X i ci) (hs : NoSl i) : PD X (.Subscript o i pos) (cBin dGetD co ci) := by
  refine ⟨fun pins s σ H Q I h => ?_⟩
  have h := tD_bin (R := fun x y H => LkR X.prog X.w X.K (fun S x y => dGetD x y S) x y H Q) h fun B S H x y dx dy d S' hs rx ry e k => ⟨B, S, dx, dy, d, S', hs, rx, ry, e, k⟩
  refine subD_of PySem.F.slot_dict_getitem.lookup hs (thn (ho.run pins s σ H _ I h) fun u s1 ⟨x, H1, I1, rx, q1⟩ => thn (hi.run pins s1 σ H1 _ I1 q1) fun iv s2 ⟨y, H2, I2, ry, q2⟩ => ?_)
  obtain ⟨B, S, dx, dy, d, S', hs, r1, r2, e, k⟩ := q2
  have e : dGetD dx dy S = some (d, S') := e
  unfold dGetD at e
  split at e
  · rename_i d' el
    cases e
    obtain ⟨a, rfl, rfl, hd, ht, hn, g⟩ := look_cases I2 hs r1 r2 el rx ry
    refine ⟨ht, ?_⟩
    rcases g with ⟨ov, g, v, rfl, rv⟩ | ⟨b, q, xs, rfl, hk, dd, p, v, ep, rel, rv⟩
    · exact d_getItem (by omega) I2 g ry fun w' s3 I3 rw' => ⟨v, H2, I3, rw', k B v H2 (Stp.refl ..) hs rv⟩
    · exact wpAny_getItem_heap (room_in1 hu) hk dd ep ⟨v, H2, I2.tok _, rel, k B v H2 (Stp.refl ..) hs rv⟩
  · cases e
theorem pc_dIn (hu : X.A.units + 64 < cLine) (hi : PD X i ci) (ho : PD X o co) : PC X .In i o (tD X.prog X.w X.K (cBin dInD ci co)) := by
  refine ⟨fun pins s σ H Q I h => ?_⟩
  have h := tD_bin (R := fun x y H => LkR X.prog X.w X.K (fun S x y => dInD x y S) x y H Q) h fun B S H x y dx dy d S' hs rx ry e k => ⟨B, S, dx, dy, d, S', hs, rx, ry, e, k⟩
  refine thn (hi.run pins s σ H _ I h) fun iv s1 ⟨y, H1, I1, ry, q1⟩ => thn (ho.run pins s1 σ H1 _ I1 q1) fun u s2 ⟨x, H2, I2, rx, q2⟩ => ?_
  obtain ⟨B, S, dy, dx, d, S', hs, r2, r1, e, k⟩ := q2
  have e : dInD dy dx S = some (d, S') := e
  unfold dInD at e
  obtain ⟨od, el, e2⟩ := Option.map_eq_some_iff.mp e
  cases e2
  obtain ⟨a, rfl, rfl, hd, ht, hn, g⟩ := look_cases I2 hs r1 r2 el rx ry
  rcases g with ⟨ov, g, g2⟩ | ⟨b, q, xs, rfl, hk, dd, g2⟩
  · have eo : ov.isSome = od.isSome := by
      cases od with
      | none => rw [show ov = none from g2]; rfl
      | some d => obtain ⟨v, rfl, _⟩ := g2; rfl
    exact d_in (by omega) I2 g ry fun s3 I3 => ⟨.bl ov.isSome, H2, I3, rfl, k B _ H2 (Stp.refl ..) hs (by rw [eo]; exact .bl _)⟩
  · have eo : (atKey xs q).isSome = od.isSome := by
      cases od with
      | none => rw [show atKey xs q = none from g2]; rfl
      | some d => obtain ⟨p, v, e, _⟩ := g2; rw [e]; rfl
    exact wpAny_in_heap (room_in1 hu) hk hd dd ⟨.bl (atKey xs q).isSome, H2, I2.tok _, rfl, k B _ H2 (Stp.refl ..) hs (by rw [eo]; exact .bl _)⟩
theorem pc_dNotIn (hu : X.A.units + 64 < cLine) (hi : PD X i ci) (ho : PD X o co) : PC X .NotIn i o (tD X.prog X.w X.K (cBin dNotInD ci co)) := by
  refine ⟨fun pins s σ H Q I h => ?_⟩
  have h := tD_bin (R := fun x y H => LkR X.prog X.w X.K (fun S x y => dNotInD x y S) x y H Q) h fun B S H x y dx dy d S' hs rx ry e k => ⟨B, S, dx, dy, d, S', hs, rx, ry, e, k⟩
  refine thn (hi.run pins s σ H _ I h) fun iv s1 ⟨y, H1, I1, ry, q1⟩ => thn (ho.run pins s1 σ H1 _ I1 q1) fun u s2 ⟨x, H2, I2, rx, q2⟩ => ?_
  obtain ⟨B, S, dy, dx, d, S', hs, r2, r1, e, k⟩ := q2
  have e : dNotInD dy dx S = some (d, S') := e
  unfold dNotInD at e
  obtain ⟨od, el, e2⟩ := Option.map_eq_some_iff.mp e
  cases e2
  obtain ⟨a, rfl, rfl, hd, ht, hn, g⟩ := look_cases I2 hs r1 r2 el rx ry
  rcases g with ⟨ov, g, g2⟩ | ⟨b, q, xs, rfl, hk, dd, g2⟩
  · have eo : ov.isSome = od.isSome := by
      cases od with
      | none => rw [show ov = none from g2]; rfl
      | some d => obtain ⟨v, rfl, _⟩ := g2; rfl
    exact d_notIn (by omega) I2 g ry fun s3 I3 => ⟨.bl (!ov.isSome), H2, I3, rfl, k B _ H2 (Stp.refl ..) hs (by rw [eo]; exact .bl _)⟩
  · have eo : (atKey xs q).isSome = od.isSome := by
      cases od with
      | none => rw [show atKey xs q = none from g2]; rfl
      | some d => obtain ⟨p, v, e, _⟩ := g2; rw [e]; rfl
    exact wpAny_notIn_heap (room_in1 hu) hk hd dd ⟨.bl (!(atKey xs q).isSome), H2, I2.tok _, rfl, k B _ H2 (Stp.refl ..) hs (by rw [eo]; exact .bl _)⟩
theorem pd_in (hu : X.A.units + 64 < cLine) (hi : PD X i ci) (ho : PD X o co) (hm : behindInMarks .In o = false := by rfl) : PD X (.Compare i [.In] [o] pos) (cBin dInD ci co) := pe_cmp (pc_dIn hu hi ho) hm
theorem pd_notIn (hu : X.A.units + 64 < cLine) (hi : PD X i ci) (ho : PD X o co) (hm : behindInMarks .NotIn o = false := by rfl) : PD X (.Compare i [.NotIn] [o] pos) (cBin dNotInD ci co) := pe_cmp (pc_dNotIn hu hi ho) hm
theorem pdt_in (hu : X.A.units + 64 < cLine) (hi : PD X i ci) (ho : PD X o co) (hm : behindInMarks .In o = false := by rfl) : PDT X (.Compare i [.In] [o] pos) (cB (cBin dInD ci co)) := pt_imp (pt_cmp (pc_dIn hu hi ho) hm) fun σ H Q h => tD_cB h
theorem pdt_notIn (hu : X.A.units + 64 < cLine) (hi : PD X i ci) (ho : PD X o co) (hm : behindInMarks .NotIn o = false := by rfl) : PDT X (.Compare i [.NotIn] [o] pos) (cB (cBin dNotInD ci co)) := pt_imp (pt_cmp (pc_dNotIn hu hi ho) hm) fun σ H Q h => tD_cB h
end
end DL

/-! Dicts: stores, get, displays. -/
namespace DL
open PySem PySem.Spec PyProof.Rows L2

theorem putD_inv {S S' : Store} {x y v : D} (e : putD S x y v = some S') : ∃ k, x = .ref k ∧ ((∃ kvs q, S[k]? = some (.dK false kvs) ∧ keyK y = some q ∧ kvs.length < sizeLine ∧ S' = S.set k (.dK false (kPut kvs q v))) ∨
    (∃ kvs, S[k]? = some (.dN false kvs) ∧ okTup y = true ∧ kvs.length < sizeLine ∧ S' = S.set k (.dN false (dPut kvs y v)))) := by
  unfold putD at e
  split at e
  · rename_i k
    refine ⟨k, rfl, ?_⟩
    split at e
    · rename_i kvs ek
      split at e
      · rename_i q eq
        split at e
        · rename_i hl
          cases e
          exact .inl ⟨kvs, q, ek, eq, hl, rfl⟩
        · cases e
      · cases e
    · rename_i kvs ek
      split at e
      · rename_i hk
        cases e
        exact .inr ⟨kvs, ek, hk.1, hk.2, rfl⟩
      · cases e
    · cases e
  · cases e
theorem length_dPut (kvs : List (D × D)) (k v : D) : (dPut kvs k v).length ≤ kvs.length + 1 := by
  unfold dPut
  split <;> simp
theorem nobj_of {P : Program} {w : World} {h' : Heap} {a : Addr} {xs : List (NestedKey × Addr × Value)} (dd : h'.DictOfH (nestedKind P w) a xs) : ∃ ob, h'.get? a = some ob ∧ NObj P w ob xs := by
  obtain ⟨o, es, ep, h1, h2, h3, h4, _, h5⟩ := dd
  exact ⟨o, h1, h2, ⟨es, ep, h3, h4⟩, h5⟩
theorem ext_ok {P : Program} {w : World} {H : Hp} {h' : Heap} {a : Addr} {ob : Obj} (e : h'.get? a = some ob) : ObjOk P w H h' a (isO a ob) := ⟨e, ⟨ob, e⟩, fun _ _ q k => k _ q⟩
section
variable {X : Cx} {pins : List (Addr × Obj)} {σ : L2.St} {s : Shared} {B : Wd} {S S' : Store} {H : Hp}
/-- d[y] = v -/
theorem put_core (hu : X.A.units + 64 < cLine) (I : Inv X pins σ H s) (hs : RS X.prog X.w X.K B S H) {x y v : V} {dx dy d : D} {u iv r : Value} (rx : RV X.K B S H x dx) (ry : RV X.K B S H y dy) (rv : RV X.K B S H v d) (e : putD S dx dy d = some S') (qx : RelV x u) (qy : RelV y iv) (qv : RelV v r)
    {Q : Unit → Shared → Prop} (h : ∀ H' s', Inv X pins σ H' s' → Stp B S H B S' H' → RS X.prog X.w X.K B S' H' → Q () s') : wpAny (model X.prog X.w) X.A (setItem u iv r) Q X.xe s := by
  obtain ⟨k, rfl, g⟩ := putD_inv e
  cases rx with
  | ref lt =>
    cases qx
    rcases g with ⟨kvs, q, ek, e1, hl, rfl⟩ | ⟨kvs, ek, hk, hl, rfl⟩
    · obtain ⟨kxs, hr, hH⟩ := hs.cel k _ ek
      simp only [Bool.false_eq_true, if_false] at hH
      have g : DPut H (B k) y v (upd H (B k) (.dK (putK kxs q v))) := .inl ⟨kxs, q, hH, keyK_v ry e1, by rw [paired_len hr]; exact hl, rfl⟩
      have st : Stp B S H B (S.set k (.dK false (kPut kvs q d))) (upd H (B k) (.dK (putK kxs q v))) := Stp.set hs ek (by simp)
      refine d_setItem (by omega) I g qy qv fun s' I' => h _ s' I' st (hs.set ek (by simp) ⟨putK kxs q v, (krel_put q rv hr).mono st.toSt0, ?_⟩)
      simp only [Bool.false_eq_true, if_false]
      exact upd_same
    · obtain ⟨o, xs, h1, h2, h3, h4, h5⟩ := hs.cel k _ ek
      obtain ⟨b, e1, e2, h6⟩ := key_is I ry hk qy
      have dd := ndict_of I h1 h4 h5
      subst e1
      refine wpAny_setItem_heap (hsz := by rw [← paired_len h5]; exact h3) (room_in1 hu) h6 dd fun h' dd' hs' => ?_
      obtain ⟨ob, ho, hn⟩ := nobj_of dd'
      have st : Stp B S H B (S.set k (.dN false (dPut kvs dy d))) (upd H (B k) (isO (B k) ob)) := Stp.set hs ek (by simp)
      refine h _ _ (d_write I (by rw [h1]; exact True.intro) hs' ⟨ob, ho⟩ (ext_ok ho)) st (hs.set ek (by simp) ?_)
      refine ⟨ob, _, upd_same, h2, ?_, hn, (nrel_put rv qv hk (by rw [← e2]; exact ry) h5).mono st.toSt0⟩
      have := length_dPut kvs dy d
      omega
end
def sDPutC (o i v : DE) : DS := fun ρ S => match v ρ S with
  | some (d, S1) => (match o ρ S1 with
    | some (x, S2) => (match i ρ S2 with
      | some (y, S3) => (match putD S3 x y d with
        | some S4 => some (.nx ρ S4)
        | none => none)
      | none => none)
    | none => none)
  | none => none
def dGet2D : List D → Store → Option (D × Store) := fun xs S => match xs with
  | [x, y, z] => (match lookD S x y with
    | some (some d) => some (d, S)
    | some none => some (z, S)
    | none => none)
  | _ => none
theorem pds_dput {X : Cx} {o i e : Expr} {pos pos' : Pos} {co ci ce : DE} (hu : X.A.units + 64 < cLine) (ho : PD X o co) (hi : PD X i ci) (hv : PD X e ce) (hs : swapsWith e (some (.Subscript o i pos')) pos.line X.env = pure false := by rfl) :
    PDS X (.Assign [.Subscript o i pos'] e pos) (sDPutC co ci ce) := by
  refine ⟨fun pins s σ H E I h => ?_⟩
  obtain ⟨B, ρ, S, f, hs0, he, ef, k⟩ := h
  unfold sDPutC at ef
  split at ef
  · rename_i d S1 e1
    split at ef
    · rename_i x S2 e2
      split at ef
      · rename_i y S3 e3
        split at ef
        · rename_i S4 e4
          cases ef
          have q0 : tD X.prog X.w X.K ce σ H fun v H1 => tD X.prog X.w X.K co σ H1 fun xv H2 => tD X.prog X.w X.K ci σ H2 fun yv H3 => ∃ B3, Stp B S H B3 S3 H3 ∧ RS X.prog X.w X.K B3 S3 H3 ∧ RV X.K B3 S3 H3 v d ∧ RV X.K B3 S3 H3 xv x ∧ RV X.K B3 S3 H3 yv y :=
            ⟨B, ρ, S, d, S1, hs0, he, e1, fun B1 v1 H1 st1 hs1 r1 => ⟨B1, ρ, S1, x, S2, hs1, he.mono st1, e2, fun B2 v2 H2 st2 hs2 r2 => ⟨B2, ρ, S2, y, S3, hs2, he.mono (st1.trans st2), e3, fun B3 v3 H3 st3 hs3 r3 => ⟨B3, (st1.trans st2).trans st3, hs3, RV.mono (st2.trans st3) _ _ r1, RV.mono st3 _ _ r2, r3⟩⟩⟩⟩
          refine wpAny_Assign_Subscript (thn (hv.run pins s σ H _ I q0) fun r s1 ⟨v, H1, I1, rv, q1⟩ => thn (ho.run pins s1 σ H1 _ I1 q1) fun u s2 ⟨xv, H2, I2, rx, q2⟩ => thn (hi.run pins s2 σ H2 _ I2 q2) fun iv s3 ⟨yv, H3, I3, ry, q3⟩ => ?_) hs
          obtain ⟨B3, st, hs3, t1, t2, t3⟩ := q3
          exact put_core hu I3 hs3 t2 t3 t1 e4 rx ry rv fun H' s' I' st' hs' => ⟨σ, H', I', k B3 σ H' (st.trans st') hs' (he.mono (st.trans st'))⟩
        · cases ef
      · cases ef
    · cases ef
  · cases ef
theorem cCons_inv {a : DE} {r : DA} {ρ : Env'} {S S' : Store} {xs : List D} (h : cCons a r ρ S = some (xs, S')) : ∃ x S1 ys, a ρ S = some (x, S1) ∧ r ρ S1 = some (ys, S') ∧ xs = x :: ys := by
  unfold cCons at h
  split at h
  · rename_i x S1 e1
    split at h
    · rename_i ys S2 e2
      cases h
      exact ⟨x, S1, ys, e1, e2, rfl⟩
    · cases h
  · cases h
theorem cApp_inv {f : List D → Store → Option (D × Store)} {a : DA} {ρ : Env'} {S S' : Store} {d : D} (h : cApp f a ρ S = some (d, S')) : ∃ xs S1, a ρ S = some (xs, S1) ∧ f xs S1 = some (d, S') := by
  unfold cApp at h
  split at h
  · rename_i x S1 e1
    exact ⟨x, S1, e1, h⟩
  · cases h
theorem cUn_inv {f : D → Store → Option (D × Store)} {a : DE} {ρ : Env'} {S S' : Store} {d : D} (h : cUn f a ρ S = some (d, S')) : ∃ x S1, a ρ S = some (x, S1) ∧ f x S1 = some (d, S') := by
  unfold cUn at h
  split at h
  · rename_i x S1 e1
    exact ⟨x, S1, e1, h⟩
  · cases h
/-- it is a dict's cell -/
def isDictD : D → Store → Option (D × Store) := fun x S => match x with
  | .ref k => (match S[k]? with
    | some (.dK _ _) => some (x, S)
    | some (.dN _ _) => some (x, S)
    | _ => none)
  | _ => none
theorem isDict_inv {x d : D} {S S' : Store} (e1 : isDictD x S = some (d, S')) : ∃ j, x = .ref j ∧ d = x ∧ S' = S ∧ ((∃ lk kvs, S[j]? = some (.dK lk kvs)) ∨ ∃ lk kvs, S[j]? = some (.dN lk kvs)) := by
  unfold isDictD at e1
  split at e1
  · rename_i j
    split at e1
    · rename_i lk kvs ej
      cases e1
      exact ⟨j, rfl, rfl, rfl, .inl ⟨lk, kvs, ej⟩⟩
    · rename_i lk kvs ej
      cases e1
      exact ⟨j, rfl, rfl, rfl, .inr ⟨lk, kvs, ej⟩⟩
    · cases e1
  · cases e1
theorem pd_dget2 {X : Cx} {o e f : Expr} {apos cpos : Pos} {co ce cf : DE} (hu : X.A.units + 64 < cLine) (ho : PD X o co) (he : PD X e ce) (hf : PD X f cf) (m : M2 X o "get" apos e f cpos) :
    PD X (.Call (.Attribute o "get" apos) [e, f] [] cpos) (cApp dGet2D (cCons (cUn isDictD co) (cCons ce (cCons cf cNil)))) := by
  refine ⟨fun pins s σ H Q I h => ?_⟩
  obtain ⟨B, ρ, S, d, S', hs0, hr, ef, k⟩ := h
  obtain ⟨xs, S0, e0, ef⟩ := cApp_inv ef
  obtain ⟨x, S1, xs, e1, e2, rfl⟩ := cCons_inv e0
  obtain ⟨x', S1', e1, ed⟩ := cUn_inv e1
  obtain ⟨y, S3, xs, e3, e4, rfl⟩ := cCons_inv e2
  obtain ⟨z, S5, xs, e5, e6, rfl⟩ := cCons_inv e4
  cases e6
  obtain ⟨j, rfl, rfl, rfl, hd⟩ := isDict_inv ed
  unfold dGet2D at ef
  simp only at ef
  have q0 : tD X.prog X.w X.K co σ H fun xv H1 => ∃ B1, Stp B S H B1 S1 H1 ∧ RS X.prog X.w X.K B1 S1 H1 ∧ RV X.K B1 S1 H1 xv (.ref j) :=
    ⟨B, ρ, S, _, S1, hs0, hr, e1, fun B1 v1 H1 st1 hs1 r1 => ⟨B1, st1, hs1, r1⟩⟩
  refine wpAny_Call_method m.base m.few m.line PySem.F.plainAttrs_dict PySem.F.slot_dict_get PySem.F.type_dict_get (thn (ho.run pins s σ H _ I q0) fun u s1 ⟨xv, H1, I1, rx, B1, st1, hs1, r1⟩ => ?_)
  have hT : s1.TypeIs u "dict" ∧ ∀ b, u = .ref b → ∃ ob, s1.heap.get? b = some ob ∧ ob.dict = none := by
    cases r1 with
    | ref lt =>
      cases rx
      rcases hd with ⟨lk, kvs, ek⟩ | ⟨lk, kvs, ek⟩
      · obtain ⟨kxs, hr, hH⟩ := hs1.cel j _ ek
        have rd : Rd H1 (B1 j) (.dK kxs) := by
          cases lk with
          | true => simp only [if_true] at hH; exact .inr hH
          | false => simp only [Bool.false_eq_true, if_false] at hH; exact .inl hH
        obtain ⟨t1, t2, _⟩ := isD_at I1 (.inl ⟨kxs, rd⟩)
        exact ⟨t1, t2⟩
      · obtain ⟨o, xs, h1, h2, h3, h4, h5⟩ := hs1.cel j _ ek
        have dd := ndict_of I1 h1 h4 h5
        refine ⟨dd.typeIs, fun b q => ?_⟩
        cases q
        obtain ⟨ob, _, _, g1, g2, _⟩ := dd
        exact ⟨ob, g1, g2.2.1⟩
  refine ⟨hT.1, hT.2, ?_⟩
  rw [m.trees]
  have q1 : tD X.prog X.w X.K ce σ H1 fun yv H2 => tD X.prog X.w X.K cf σ H2 fun zv H3 => ∃ B3, Stp B1 S1 H1 B3 S0 H3 ∧ RS X.prog X.w X.K B3 S0 H3 ∧ RV X.K B3 S0 H3 yv y ∧ RV X.K B3 S0 H3 zv z :=
    ⟨B1, ρ, S1, y, S3, hs1, hr.mono st1, e3, fun B2 v2 H2 st2 hs2 r2 => ⟨B2, ρ, S3, z, S0, hs2, hr.mono (st1.trans st2), e5, fun B3 v3 H3 st3 hs3 r3 => ⟨B3, st2.trans st3, hs3, RV.mono st3 _ _ r2, r3⟩⟩⟩
  refine Calls.callWith_builtin rfl (Calls.evalArgs_plain (Calls.spliced_cons (thn (he.run pins s1 σ H1 _ I1 q1) fun iv s2 ⟨yv, H2, I2, ry, q2⟩ =>
    Calls.spliced_cons (thn (hf.run pins s2 σ H2 _ I2 q2) fun fv s3 ⟨zv, H3, I3, rz, B3, st3, hs3, ry3, rz3⟩ => Calls.spliced_nil ?_))))
  cases hl : lookD S0 (.ref j) y with
  | none => rw [hl] at ef; cases ef
  | some od =>
    rw [hl] at ef
    obtain ⟨a, rfl, rfl, hd3, ht, hn, g⟩ := look_cases I3 hs3 (RV.mono st3 _ _ r1) ry3 hl rx ry
    rcases g with ⟨ov, g, g2⟩ | ⟨b, q, xs, rfl, hk, dd, g2⟩
    · refine d_get2 (by omega) I3 g ry rz fun w' s4 I4 rw' => ⟨_, H3, I4, rw', ?_⟩
      cases od with
      | none =>
        rw [show ov = none from g2]
        cases ef
        exact k B3 _ H3 (st1.trans st3) hs3 rz3
      | some d' =>
        obtain ⟨v, rfl, rv⟩ := g2
        cases ef
        exact k B3 _ H3 (st1.trans st3) hs3 rv
    · refine call_meetsIn PySem.F.slot_dict_get dd.typeIs PySem.F.entry_dict_get (PySem.F.args_dict_get_3 _ _ _) (meetsH_dict_get_default (nestedKind X.prog X.w) a b hd3 fv) ⟨room_in1 hu, q, xs, hk, dd, ?_⟩
      cases od with
      | none =>
        rw [show atKey xs q = none from g2]
        cases ef
        exact ⟨_, H3, I3.tok _, rz, k B3 _ H3 (st1.trans st3) hs3 rz3⟩
      | some d' =>
        obtain ⟨p, v, ep, rel, rv⟩ := g2
        rw [ep]
        cases ef
        exact ⟨v, H3, I3.tok _, rel, k B3 _ H3 (st1.trans st3) hs3 rv⟩

/-! ### displays of one entry, empty displays -/
/-- p forgotten -/
abbrev offH (H : Hp) (p : Addr) : Hp := fun a => if a = p then none else H a
theorem offH_ne {H : Hp} {p a : Addr} (h : a ≠ p) : offH H p a = H a := by show (if a = p then none else H a) = H a; rw [if_neg h]
theorem offH_self {H : Hp} {p : Addr} : offH H p p = none := by show (if p = p then none else H p) = none; rw [if_pos rfl]
theorem offH_upd {H : Hp} {p : Addr} {u : HO} : upd (offH H p) p u = upd H p u := by
  funext a
  by_cases h : a = p
  · subst h; rw [upd_same, upd_same]
  · rw [upd_ne h, upd_ne h, offH_ne h]
section
variable {P : Program} {w : World} {K : PySem.W.Frag} {B : Wd} {S : Store} {H : Hp} {p : Addr} {u : HO}
/-- what stands at p is no list and no tuple -/
def odd (u : HO) : Prop := (∀ xs, u ≠ .tup xs) ∧ (∀ xs, u ≠ .lst xs) ∧ ∀ o xs, u ≠ .frz o (.lst xs)
mutual
theorem RV.off (h : H p = some u) (ou : odd u) : ∀ (d : D) (v : V), RV K B S H v d → RV K B S (offH H p) v d
  | .non, _, h => by cases h; exact .non
  | .bl b, _, h => by cases h; exact .bl b
  | .int i, _, h => by cases h; exact .int i
  | .str x, _, h => by cases h; exact .str x
  | .tup ds, _, r => by
    cases r with
    | tup e n r =>
      refine .tup (by rw [offH_ne]; exact e; rintro rfl; rw [h] at e; cases e; exact ou.1 _ rfl) n (RVs.off h ou ds _ r)
    | tupK e r => exact .tupK e (RVs.off h ou ds _ r)
  | .lst ds, _, r => by
    cases r with
    | lst e n r =>
      refine .lst (by rw [offH_ne]; exact e; rintro rfl; rw [h] at e; cases e; exact ou.2.1 _ rfl) n (RVs.off h ou ds _ r)
  | .scr ds, _, r => by
    cases r with
    | lstF e n r =>
      refine .lstF (by rw [offH_ne]; exact e; rintro rfl; rw [h] at e; cases e; exact ou.2.2 _ _ rfl) n (RVs.off h ou ds _ r)
    | lstK e r => exact .lstK e (RVs.off h ou ds _ r)
  | .ref k, _, r => by
    cases r with
    | ref lt => exact .ref lt
theorem RVs.off (h : H p = some u) (ou : odd u) : ∀ (ds : List D) (vs : List V), RVs K B S H vs ds → RVs K B S (offH H p) vs ds
  | [], _, r => by cases r; exact .nil
  | d :: ds, _, r => by
    cases r with
    | cons h1 h2 => exact .cons (RV.off h ou d _ h1) (RVs.off h ou ds _ h2)
end
theorem RS.off (r : RS P w K B S H) (h : H p = some u) (ou : odd u) (n : ¬ Owned B S p) : RS P w K B S (offH H p) := by
  refine ⟨r.inj, fun k c e => ?_, fun b hb => ?_, r.hdn⟩
  · have q := r.cel k c e
    cases c with
    | dead => trivial
    | lst ds =>
      obtain ⟨xs, h1, h2⟩ := q
      exact ⟨xs, by rw [offH_ne (fun z => n (.inr ⟨k, _, e, by simp, z⟩))]; exact h1, RVs.off h ou _ _ h2⟩
    | dK lk kvs =>
      obtain ⟨kxs, h2, h1⟩ := q
      rw [← offH_ne (H := H) (fun z => n (.inr ⟨k, _, e, by simp, z⟩))] at h1
      exact ⟨kxs, paired_map (fun _ _ z => ⟨z.1, RV.off h ou _ _ z.2⟩) h2, h1⟩
    | dN lk kvs =>
      obtain ⟨o, xs, h1, h2, h3, h4, h5⟩ := q
      rw [← offH_ne (H := H) (fun z => n (.inr ⟨k, _, e, by simp, z⟩))] at h1
      exact ⟨o, xs, h1, h2, h3, h4, paired_map (fun _ _ h => ⟨h.1, h.2.1, RV.off (by assumption) ou _ _ h.2.2.1, let ⟨v, e, q⟩ := h.2.2.2; ⟨v, e, RV.off (by assumption) ou _ _ q⟩⟩) h5⟩
  · rw [offH_ne (by rintro rfl; exact n (.inl hb))]
    exact r.hdt b hb
end
end DL

/-! Dict displays. -/
namespace DL
open PySem PySem.Spec PyProof.Rows L2

section
variable {P : Program} {w : World} {K : PySem.W.Frag} {B B2 : Wd} {S S2 : Store} {H H2 : Hp} {p : Addr} {u o' : HO} {c : Cell}
theorem disp_core (hs : RS P w K B S H) (n : H p = none) (ou : odd u) (st : Stp B S (upd H p u) B2 S2 H2) (hs2 : RS P w K B2 S2 H2) :
    H2 p = some u ∧ (∀ d v, RV K B2 S2 H2 v d → RV K B2 S2 (offH H2 p) v d) ∧ RS P w K B2 S2 (offH H2 p) ∧
    (CRl P w K (addB B2 S2.length p) (S2 ++ [c]) (upd H2 p o') p c → Stp B S H (addB B2 S2.length p) (S2 ++ [c]) (upd H2 p o') ∧ RS P w K (addB B2 S2.length p) (S2 ++ [c]) (upd H2 p o') ∧ RV K (addB B2 S2.length p) (S2 ++ [c]) (upd H2 p o') (.ref p) (.ref S2.length)) := by
  have n1 : ¬ Owned B S p := hs.fresh n
  have n2 : ¬ Owned B2 S2 p := fun z => n1 (st.own p u upd_same z)
  have hp : H2 p = some u := st.oth p u upd_same n1
  have ro := hs2.off hp ou n2
  refine ⟨hp, fun d v r => RV.off hp ou d v r, ro, fun q => ⟨⟨⟨Nat.le_trans st.len (by simp), fun k hk => (addB_lt (Nat.lt_of_lt_of_le hk st.len)).trans (st.agr k hk), fun a o ha na => ?_, fun a o ha w => ?_⟩, st.hde, fun a ha => ?_⟩, ?_, ?_⟩⟩
  · have hne := ne_of_none ha n
    rw [upd_ne hne]
    exact st.oth a o (by rw [upd_ne hne]; exact ha) na
  · have hne := ne_of_none ha n
    rcases owned_add w with z | z
    · exact absurd z hne
    · exact st.own a o (by rw [upd_ne hne]; exact ha) z
  · obtain ⟨uu, h⟩ := hs.hdt a ha
    have hne := ne_of_none h n
    rw [upd_ne hne, st.hdk a ha, upd_ne hne]
  · have := RS.add (o := o') (c := c) ro offH_self (by rw [offH_upd]; exact q)
    rw [offH_upd] at this
    exact this
  · have e : (V.ref p) = V.ref (addB B2 S2.length p S2.length) := by rw [addB_self]
    rw [e]
    exact .ref (by simp)
/-- the values that lie off p stay as they are when p becomes a cell -/
theorem disp_keep (ro : RS P w K B2 S2 (offH H2 p)) {d : D} {v : V} (r : RV K B2 S2 (offH H2 p) v d) : RV K (addB B2 S2.length p) (S2 ++ [c]) (upd H2 p o') v d := by
  have st := (Stp.add (o := o') (c := c) ro offH_self).toSt0
  have := RV.mono0 st d v r
  rw [offH_upd] at this
  exact this
end
/-- {k: v} -/
def cDisp (nst : Bool) (ck cv : DE) : DE := fun ρ S => match ck ρ S with
  | some (k, S1) => (match cv ρ S1 with
    | some (v, S2) => if nst = true then (if okTup k = true then some (.ref S2.length, S2 ++ [.dN false [(k, v)]]) else none)
      else (match keyK k with
        | some q => some (.ref S2.length, S2 ++ [.dK false [(q, v)]])
        | none => none)
    | none => none)
  | none => none
theorem pd_disp {X : Cx} {pos : Pos} {k v : Expr} {ck cv : DE} {nst : Bool} (hu : X.A.units + 64 < cLine) (hk : PD X k ck) (hv : PD X v cv) : PD X (.Dict [some k] [v] pos) (cDisp nst ck cv) := by
  cases nst with
  | false =>
    refine pe_imp (pe_disp (pps_cons hk hv pps_nil) rfl rfl (by simp) (by simp)) fun σ H Q ⟨B, ρ, S, d, S', hs, he, e, kk⟩ p hp => ?_
    unfold cDisp at e
    split at e
    · rename_i dk S1 e1
      split at e
      · rename_i dv S2 e2
        simp only [Bool.false_eq_true, if_false] at e
        split at e
        · rename_i q eq
          cases e
          refine ⟨B, ρ, S, dk, S1, hs.new hp, he.mono (Stp.new hs hp), e1, fun B1 v1 H1 st1 hs1 r1 => ⟨B1, ρ, S1, dv, S2, hs1, (he.mono (Stp.new hs hp)).mono st1, e2, fun B2 v2 H2 st2 hs2 r2 => ?_⟩⟩
          obtain ⟨h1, h2, h3, h4⟩ := disp_core (u := .dK []) (o' := .dK (mergeK [] [(q, v2)])) (c := .dK false [(q, dv)]) hs hp ⟨fun _ z => (nomatch z), fun _ z => (nomatch z), fun _ _ z => (nomatch z)⟩ (st1.trans st2) hs2
          refine ⟨h1, [(q, v2)], by rw [keyK_v (RV.mono st2 _ _ r1) eq]; rfl, by simp, ?_⟩
          obtain ⟨g1, g2, g3⟩ := h4 ⟨[(q, v2)], .cons ⟨rfl, disp_keep h3 (h2 _ _ r2)⟩ .nil, by simp only [Bool.false_eq_true, if_false]; exact upd_same⟩
          exact kk _ _ _ g1 g2 g3
        · cases e
      · cases e
    · cases e
  | true =>
    refine ⟨fun pins s σ H Q I hq => ?_⟩
    obtain ⟨B, ρ, S, d, S', hs, he, e, kk⟩ := hq
    unfold cDisp at e
    split at e
    · rename_i dk S1 e1
      split at e
      · rename_i dv S2 e2
        simp only [if_true] at e
        split at e
        · rename_i hok
          cases e
          have hn := I.hok.fresh (Nat.le_refl s.heap.objs.size)
          have I1 := I.laid (a := s.heap.objs.size) (o := isO s.heap.objs.size { cls := .type "dict", data := .dict #[] }) (h' := s.heap.push { cls := .type "dict", data := .dict #[] }) (t' := s.toks) (fun _ _ q => Heap.get?_push_of_some _ q) (Nat.le_refl _) (ext_ok (Heap.get?_push_size _ rfl))
          have q0 : tPairs [(tD X.prog X.w X.K ck, tD X.prog X.w X.K cv)] σ (upd H s.heap.objs.size (isO s.heap.objs.size { cls := .type "dict", data := .dict #[] })) fun ps H2 => ∃ v1 v2 B2, ps = [(v1, v2)] ∧ Stp B S (upd H s.heap.objs.size (isO s.heap.objs.size { cls := .type "dict", data := .dict #[] })) B2 S2 H2 ∧ RS X.prog X.w X.K B2 S2 H2 ∧ RV X.K B2 S2 H2 v1 dk ∧ RV X.K B2 S2 H2 v2 dv :=
            ⟨B, ρ, S, dk, S1, hs.new hn, he.mono (Stp.new hs hn), e1, fun B1 v1 H1 st1 hs1 r1 => ⟨B1, ρ, S1, dv, S2, hs1, (he.mono (Stp.new hs hn)).mono st1, e2, fun B2 v2 H2 st2 hs2 r2 => ⟨v1, v2, B2, rfl, st1.trans st2, hs2, RV.mono st2 _ _ r1, r2⟩⟩⟩
          have hpp : PPs X pos [some k] [v] [(tD X.prog X.w X.K ck, tD X.prog X.w X.K cv)] := pps_cons hk hv pps_nil
          rw [arm_eval_Dict, zip_pairTrees [some k] [v] X.env pos rfl rfl, dictDisplay_pairs (pairTrees [some k] [v] X.env pos) (by simp [pairTrees]) (by simp [pairTrees])]
          refine wpAny_bind (wpAny_standAt (wpAny_bind (wpAny_subDictH (knd := nestedKind X.prog X.w) (Q := fun d s' => wpAny (model X.prog X.w) X.A (pure (Value.ref d)) (EP X pins σ Q) X.xe s') (show X.A.units + 8 < cLine by omega) (by simp [pairTrees]) (thn (hpp.run pins _ σ _ _ I1 q0) fun ws s2 ⟨ps, H2, I2, rel, v1, v2, B2, ep, st, hs2, r1, r2⟩ => ?_))))
          subst ep
          cases rel with
          | @cons a b as bs hh t =>
            cases t
            obtain ⟨u1, u2⟩ := b
            obtain ⟨b1, e3, e4, e5⟩ := key_is I2 r1 hok hh.1
            have e3 : u1 = .ref b1 := e3
            subst e3
            obtain ⟨h1, h2, h3, h4⟩ := disp_core (u := isO s.heap.objs.size { cls := .type "dict", data := .dict #[] }) (c := .dN false [(dk, dv)]) (o' := .dK []) hs hn ⟨fun _ z => (nomatch z), fun _ z => (nomatch z), fun _ _ z => (nomatch z)⟩ st hs2
            have hg : s2.heap.get? s.heap.objs.size = some { cls := .type "dict", data := .dict #[] } := (show ObjOk X.prog X.w H2 s2.heap _ (isO _ _) from I2.hok _ _ h1).1
            refine ⟨[(keyD dk, b1, u2)], ⟨rfl, rfl, e5, trivial⟩, ⟨_, #[], 0, hg, ⟨rfl, rfl, rfl⟩, rfl, rfl, fun _ hx => by simp at hx, List.nodup_nil⟩, fun h' tk dd' hsb => wpAny_pure ?_⟩
            obtain ⟨ob, ho, hno⟩ := nobj_of dd'
            obtain ⟨_, _, _, h4⟩ := disp_core (u := isO s.heap.objs.size { cls := .type "dict", data := .dict #[] }) (c := .dN false [(dk, dv)]) (o' := isO s.heap.objs.size ob) hs hn ⟨fun _ z => (nomatch z), fun _ z => (nomatch z), fun _ _ z => (nomatch z)⟩ st hs2
            have hz : (s.heap.objs.size == sysModules) = false := beq_eq_false_iff_ne.mpr (Ne.symm (Nat.ne_of_lt I.big))
            obtain ⟨g1, g2, g3⟩ := h4 ⟨ob, [(keyD dk, b1, u2)], upd_same, hz, by rw [sizeLine_eq]; simp, hno, .cons ⟨hok, rfl, disp_keep h3 (h2 _ _ (by rw [← show v1 = V.ref b1 from e4]; exact r1)), v2, hh.2, disp_keep h3 (h2 _ _ r2)⟩ .nil⟩
            exact ⟨.ref s.heap.objs.size, _, d_write I2 (by rw [h1]; exact True.intro) hsb ⟨ob, ho⟩ (ext_ok ho), rfl, kk _ _ _ g1 g2 g3⟩
        · cases e
      · cases e
    · cases e
/-- {} -/
def cDNew (nst : Bool) : DE := fun _ S => some (.ref S.length, S ++ [if nst = true then .dN false [] else .dK false []])
theorem pd_dnew {X : Cx} {pos : Pos} {nst : Bool} : PD X (.Dict [] [] pos) (cDNew nst) := by
  cases nst with
  | false =>
    refine pe_imp pe_dnewK fun σ H Q ⟨B, ρ, S, d, S', hs, he, e, kk⟩ p hp => ?_
    cases e
    have st : Stp B S H (addB B S.length p) (S ++ [.dK false []]) (upd H p (.dK [])) := Stp.add hs hp
    refine kk _ _ _ st (hs.add hp ⟨[], .nil, by simp only [Bool.false_eq_true, if_false]; exact upd_same⟩) ?_
    have e : (V.ref p) = V.ref (addB B S.length p S.length) := by rw [addB_self]
    rw [e]
    exact .ref (by simp)
  | true =>
    refine ⟨fun pins s σ H Q I hq => ?_⟩
    obtain ⟨B, ρ, S, d, S', hs, he, e, kk⟩ := hq
    cases e
    have hn := I.hok.fresh (Nat.le_refl s.heap.objs.size)
    have I1 := I.laid (a := s.heap.objs.size) (o := isO s.heap.objs.size { cls := .type "dict", data := .dict #[] }) (h' := s.heap.push { cls := .type "dict", data := .dict #[] }) (t' := s.toks) (fun _ _ q => Heap.get?_push_of_some _ q) (Nat.le_refl _) (ext_ok (Heap.get?_push_size _ rfl))
    have hz : (s.heap.objs.size == sysModules) = false := beq_eq_false_iff_ne.mpr (Ne.symm (Nat.ne_of_lt I.big))
    refine wpAny_Dict_empty ⟨.ref s.heap.objs.size, _, I1, rfl, kk _ _ _ (Stp.add hs hn) (hs.add hn ⟨_, [], upd_same, hz, Nat.zero_le _, ⟨⟨rfl, rfl, rfl⟩, ⟨#[], 0, rfl, rfl⟩, List.nodup_nil⟩, .nil⟩) ?_⟩
    have e : (V.ref s.heap.objs.size) = V.ref (addB B S.length s.heap.objs.size S.length) := by rw [addB_self]
    rw [e]
    exact .ref (by simp)
end DL

/-! What the printed texts use. -/
namespace DL
open PySem PySem.Spec PyProof.Rows L2

def FdAt (K : PySem.W.Frag) (f : Addr) (fd : FuncData) : Prop := ∃ oc od osl, K.lookup f = some ⟨oc, od, .func fd, osl⟩
theorem fdAt_of {K : PySem.W.Frag} {x qual : Str} {params : Arguments} {body : List Stmt} {scope : Scope} {dvs : List V} {kws : List (Str × V)} {f : Addr} {fd : FuncData} (F : FunD K x qual params body scope dvs kws f fd) : FdAt K f fd := by
  obtain ⟨oc, od, _, _, _, _, _, _, _, osl, _, h, _⟩ := F.ex
  exact ⟨oc, od, osl, h⟩
theorem FdAt.eq {K : PySem.W.Frag} {f : Addr} {fd fd' : FuncData} (a : FdAt K f fd) (b : FdAt K f fd') : fd = fd' := by
  obtain ⟨_, _, _, a⟩ := a
  obtain ⟨_, _, _, b⟩ := b
  rw [a] at b
  cases b
  rfl
/-- a def by its name -/
def DefOk (P : Program) (w : World) (K : PySem.W.Frag) (mg : Str → Option Value) (base : Heap) (x : Str) (k : Nat) (ps : List Str) (F : DF) : Prop :=
  ∃ f fd, FnOk P w K mg base CX0 k f fd ps (spD P w K ps.length F) ∧ mg x = some (.ref f) ∧ PySem.W.keepIn K (.ref f) = true ∧ Binds K fd ps [] ∧ FdAt K f fd
/-- its function object, by its row -/
def DefAt (K : PySem.W.Frag) (mg : Str → Option Value) (x : Str) (st : Stmt) : Prop := ∃ f fd, FunD K x x (defArgs st) (defBody st) (defScope st) [] [] f fd ∧ mg x = some (.ref f)
abbrev nD (n : Nat) (F : DF) : DF := fun ds S => if ds.length = n then F ds S else none
theorem pd_callD {X : Cx} {k n : Nat} {ps : List Str} {F : DF} {x : Str} {p pos : Pos} {e : Expr} {es : List Expr} {cs : DA} (hr : Room k X.A) (D : DefOk X.prog X.w X.K X.mg X.base x k ps F) (ha : PDA X (e :: es) cs) (hn : ps.length = n := by rfl) (hg : Gl X x := by rfl)
    (hl : (e :: es).length = ps.length := by rfl) (hdb : (x == ("__debug__" : Str)) = false := by decide) (he : starEach (e :: es) X.env = (false, eval e X.env) :: starEach es X.env := by rfl) (hpl : (backTo pos (starEach es X.env)).any (·.1) = false := by rfl) :
    PD X (.Call (.Name x p) (e :: es) [] pos) (cApp (nD n F) cs) := by
  subst hn
  obtain ⟨f, fd, h1, h2, h3, h4, _⟩ := D
  exact pd_call h1 hr hg h2 h3 h4 hl ha hdb he hpl
def ipD (f : Int → Int → Int) : D → D → Store → Option (D × Store) := fun x y S => match x, y with
  | .int a, .int b => some (.int (f a b), S)
  | _, _ => none
theorem ok_ip {P : Program} {w : World} {K : PySem.W.Frag} {f : Int → Int → Int} : Ok2 P w K (ipI f) (ipD f) := by
  intro B S H x y dx dy d S' Q hs rx ry e k
  unfold ipD at e
  split at e
  · cases e; exact ⟨_, _, rx.intI, ry.intI, k B _ H (Stp.refl ..) hs (.int _)⟩
  · cases e
abbrev iaddD := ipD fun i j => i + j
abbrev isubD := ipD fun i j => i - j
theorem par_of {X : Cx} {e : Expr} {t : DT} (h : PDW X e t) : PDT X e t := PW.pt h
section
variable {X : Cx} {i : Nat} {x : Str} {e : Expr} {ce : DE} {pos pos' : Pos}
theorem pds_iadd (hN : X.N.Nodup) (hi : X.N[i]? = some x) (hx : Loc X.env.scope x) (he : PD X e ce) (hf : X.fn x = true ∨ X.env.scope.names.lookup x = some .local := by first | exact .inl rfl | exact .inr rfl | assumption) : PDS X (.AugAssign (.Name x pos') .Add e pos) (sAug i iaddD ce) :=
  pds_aug ip_add ok_ip fun h => ps_aug hN hi hx he h hf
theorem pds_isub (hN : X.N.Nodup) (hi : X.N[i]? = some x) (hx : Loc X.env.scope x) (he : PD X e ce) (hf : X.fn x = true ∨ X.env.scope.names.lookup x = some .local := by first | exact .inl rfl | exact .inr rfl | assumption) : PDS X (.AugAssign (.Name x pos') .Sub e pos) (sAug i isubD ce) :=
  pds_aug ip_sub ok_ip fun h => ps_aug hN hi hx he h hf
theorem pds_iaddIx {o i e : Expr} {co ci ce : DE} {pos tpos : Pos} (ho : PD X o co) (hi : PD X i ci) (he : PD X e ce)
    (ha : ∀ ov iv new, augStore i ov iv new = (do holding [new, ov, iv] (setItem ov iv new); release [new, ov, iv] []; pure .next) := by intros; rfl) : PDS X (.AugAssign (.Subscript o i tpos) .Add e pos) (sAugIx iaddD co ci ce) := pds_augIx ip_add ok_ip ho hi he ha
theorem pds_isubIx {o i e : Expr} {co ci ce : DE} {pos tpos : Pos} (ho : PD X o co) (hi : PD X i ci) (he : PD X e ce)
    (ha : ∀ ov iv new, augStore i ov iv new = (do holding [new, ov, iv] (setItem ov iv new); release [new, ov, iv] []; pure .next) := by intros; rfl) : PDS X (.AugAssign (.Subscript o i tpos) .Sub e pos) (sAugIx isubD co ci ce) := pds_augIx ip_sub ok_ip ho hi he ha
end

/-! ### the truth of a value -/
def truD (S : Store) : D → Option Bool
  | .non => some false
  | .bl b => some b
  | .int i => some (i != 0)
  | .tup xs => some (!xs.isEmpty)
  | .str y => if y.length ≤ sizeLine then some ((y.length : Int) != 0) else none
  | x => (asQ S x).map fun xs => !xs.isEmpty
def cTr (a : DE) : DT := fun ρ S => match a ρ S with
  | some (x, S1) => (truD S1 x).map fun b => (b, S1)
  | none => none
theorem isEmpty_len {α β : Type} {a : List α} {b : List β} (h : a.length = b.length) : a.isEmpty = b.isEmpty := by
  cases a <;> cases b <;> first | rfl | (simp at h)
theorem truD_ok {P : Program} {w : World} {K : PySem.W.Frag} {B : Wd} {S : Store} {H : Hp} {v : V} {d : D} {b : Bool} (hs : RS P w K B S H) (r : RV K B S H v d) (e : truD S d = some b) : TruV K v H b := by
  unfold truD at e
  split at e
  · cases e; cases r; exact rfl
  · cases e; cases r; exact rfl
  · cases e; cases r; exact rfl
  · cases e
    obtain ⟨a, us, rfl, ha, qa⟩ := r.tupI
    exact .inr (.inl ⟨us, ha, by rw [isEmpty_len qa.length]⟩)
  · split at e
    · rename_i hl
      cases e; cases r; exact ⟨hl, rfl⟩
    · cases e
  · obtain ⟨xs, e1, e2⟩ := Option.map_eq_some_iff.mp e
    subst e2
    obtain ⟨a, us, rfl, ha, qa⟩ := asQ_ok hs r e1
    exact .inl ⟨us, ha, by rw [isEmpty_len qa.length]⟩
section
variable {X : Cx} {a b c : Expr} {ca cb cc : DE} {pos : Pos}
theorem pdt_tr (h : PD X a ca) (he : ∀ whole, isTrue a X.env whole = (do let v ← whole; standAt a.pos; holding [v] (truthy v)) := by intro _; rfl) : PDT X a (cTr ca) :=
  pt_imp (pt_truth h he) fun σ H Q ⟨B, ρ, S, d, S', hs, hr, e, k⟩ => by
    unfold cTr at e
    split at e
    · rename_i x S1 e1
      obtain ⟨t, e2, e3⟩ := Option.map_eq_some_iff.mp e
      cases e3
      exact ⟨B, ρ, S, x, _, hs, hr, e1, fun B' v H' st hs' r => ⟨_, truD_ok hs' r e2, k B' H' st hs'⟩⟩
    · cases e
theorem pdt_chain {op op' : CmpOp} {r r' : R2} {f g : D → D → Store → Option (D × Store)} (ho : OpR X (compareOp op) r) (ho' : OpR X (compareOp op') r') (hf : Ok2 X.prog X.w X.K r f) (hg : Ok2 X.prog X.w X.K r' g) (ha : PD X a ca) (hb : PD X b cb) (hc : PD X c cc)
    (hm : lastMarks [op, op'] [b, c] = false := by with_unfolding_all rfl) : PDT X (.Compare a [op, op'] [b, c] pos) (cB (cChain f g ca cb cc)) := by
  refine pt_imp (pt_chain ho ho' ha hb hc hm) fun σ H Q h => ?_
  obtain ⟨B, ρ, S, d, S', hs, he, e, k⟩ := tD_cB h
  unfold cChain at e
  split at e
  · rename_i x S1 e1
    split at e
    · rename_i y S2 e2
      refine ⟨B, ρ, S, x, S1, hs, he, e1, fun B1 v1 H1 st1 hs1 r1 => ⟨B1, ρ, S1, y, S2, hs1, he.mono st1, e2, fun B2 v2 H2 st2 hs2 r2 => ?_⟩⟩
      split at e
      · rename_i S3 e3
        refine hf B2 S2 H2 v1 v2 x y _ S3 _ hs2 (RV.mono st2 _ _ r1) r2 e3 fun B3 v3 H3 st3 hs3 r3 => ?_
        cases r3
        refine ⟨_, rfl, iteT ?_⟩
        split at e
        · rename_i z S4 e4
          refine ⟨B3, ρ, S3, z, S4, hs3, he.mono ((st1.trans st2).trans st3), e4, fun B4 v4 H4 st4 hs4 r4 => ?_⟩
          exact hg B4 S4 H4 v2 v4 y z d S' _ hs4 (RV.mono (st3.trans st4) _ _ r2) r4 e fun B5 v5 H5 st5 hs5 r5 => k B5 v5 H5 ((((st1.trans st2).trans st3).trans st4).trans st5) hs5 r5
        · cases e
      · rename_i S3 e3
        cases e
        refine hf B2 S2 H2 v1 v2 x y _ _ _ hs2 (RV.mono st2 _ _ r1) r2 e3 fun B3 v3 H3 st3 hs3 r3 => ?_
        cases r3
        exact ⟨_, rfl, iteF (k B3 _ H3 ((st1.trans st2).trans st3) hs3 (.bl _))⟩
      · cases e
    · cases e
  · cases e
theorem pd_globE {x : Str} {i : Int} (hg : Gl X x) (h : ∃ u, X.mg x = some u ∧ RelV (.int i) u) (hd : (x == ("__debug__" : Str)) = false := by decide) : PD X (.Name x pos) (cC (.int i)) := by
  obtain ⟨u, h1, h2⟩ := h
  exact pd_glob hg h1 h2 hd
end
theorem DefOk.mono {P : Program} {w : World} {K : PySem.W.Frag} {mg : Str → Option Value} {base : Heap} {x : Str} {j k : Nat} {ps : List Str} {F : DF} (d : DefOk P w K mg base x j ps F) (h : j ≤ k) : DefOk P w K mg base x k ps F := by
  obtain ⟨f, fd, h1, h2, h3, h4⟩ := d
  exact ⟨f, fd, h1.mono h, h2, h3, h4⟩

/-- the script, before the law -/
theorem law_start {P : Program} {w : World} {K : PySem.W.Frag} {F : DF} (hF : ∀ ns : List Int, ns.length ≤ 63 → ∃ S', F [.scr (ns.map D.int)] [] = some (.bl true, S')) (H : Hp) (a : Addr) (ns : List Int) (hl : ns.length ≤ 63) (hO : Only H) (hS : SqL K H a (ns.map V.int)) :
    spD P w K 1 F [.ref a] H (fun v _ => v = .bl true) fun _ _ _ => False := by
  obtain ⟨S', e⟩ := hF ns hl
  refine ⟨rfl, ⟨fun _ => 0, []⟩, [], [.scr (ns.map D.int)], .bl true, S', ⟨fun i j ci cj h => ?_, fun k c h => ?_, fun a h => ?_, fun a k c h => ?_⟩, .cons ?_ .nil, e, fun B' v H' _ _ r => ?_⟩
  · simp at h
  · simp at h
  · cases h
  · cases h
  · have ri : ∀ (B : Wd) (S : Store) (H : Hp) (ns : List Int), RVs K B S H (ns.map V.int) (ns.map D.int) := fun B S H ns => by
      induction ns with
      | nil => exact .nil
      | cons x xs ih => exact .cons (.int x) ih
    have nO : ¬ Owned (⟨fun _ => 0, []⟩ : Wd) ([] : Store) a := by
      rintro (h | ⟨k, c, h, _⟩)
      · cases h
      · simp at h
    rcases hS with (h | ⟨o, h⟩) | h
    · rcases hO a with q | ⟨o, xs, q⟩
      · rw [h] at q; cases q
      · rw [h] at q; cases q
    · exact .lstF h nO (ri _ _ _ _)
    · exact .lstK (fun _ => .inr h) (ri _ _ _ _)
  · cases r; rfl
end DL

/-! Tools for the plain half: what the combinators give. -/
namespace DL
open PySem PySem.Spec PyProof.Rows L2

mutual
theorem below_mono {n m : Nat} (h : n ≤ m) : ∀ d : D, below n d = true → below m d = true
  | .ref k, e => by
    simp only [below, decide_eq_true_eq] at e ⊢
    omega
  | .tup ds, e => by simp only [below] at e ⊢; exact belows_mono h ds e
  | .lst ds, e => by simp only [below] at e ⊢; exact belows_mono h ds e
  | .scr ds, e => by simp only [below] at e ⊢; exact belows_mono h ds e
  | .non, _ => rfl
  | .bl _, _ => rfl
  | .int _, _ => rfl
  | .str _, _ => rfl
theorem belows_mono {n m : Nat} (h : n ≤ m) : ∀ ds : List D, belows n ds = true → belows m ds = true
  | [], _ => rfl
  | d :: ds, e => by
    simp only [belows, Bool.and_eq_true] at e ⊢
    exact ⟨below_mono h d e.1, belows_mono h ds e.2⟩
end
theorem belows_all {n : Nat} : ∀ {ds : List D}, belows n ds = true ↔ ∀ d ∈ ds, below n d = true
  | [] => by simp [belows]
  | d :: ds => by simp [belows, belows_all (ds := ds)]
theorem belows_map {α : Type} {n : Nat} {f : α → D} {l : List α} (h : ∀ x ∈ l, below n (f x) = true) : belows n (l.map f) = true := belows_all.mpr fun d hd => by
  obtain ⟨x, hx, rfl⟩ := List.mem_map.mp hd
  exact h x hx
/-- leaving a def: what it made is dropped, its caller's cells may have changed -/
theorem leave_upd {S S' T : Store} {d : D} (hl : S'.length = S.length) (hc : ∀ k : Nat, k < S.length → S'[k]? = S[k]? ∨ ∃ c, S'[k]? = some c ∧ cellBelow S.length c) (hd : below S.length d = true) : leave S (some (.rt d (S' ++ T))) = some (d, S') := by
  show leaveV S (S' ++ T) d = _
  unfold leaveV
  rw [if_pos, if_pos hd, List.take_left' hl]
  intro k hk
  rw [List.getElem?_append_left (by omega)]
  exact hc k hk
theorem leave_rt {S T : Store} {d : D} (h : below 0 d = true) : leave S (some (.rt d (S ++ T))) = some (d, S) := leave_upd rfl (fun _ _ => .inl rfl) (below_mono (Nat.zero_le _) d h)
theorem leave_rt0 {S : Store} {d : D} (h : below 0 d = true) : leave S (some (.rt d S)) = some (d, S) := by
  have := leave_rt (S := S) (T := []) h
  rwa [List.append_nil] at this
theorem call_rt {n : Nat} {c : DS} {ds : List D} {S T : Store} {d : D} (e : c (ds.map some ++ List.replicate (n - ds.length) none) S = some (.rt d (S ++ T))) (h : below 0 d = true) : callF n c ds S = some (d, S) := by
  unfold callF
  rw [e]
  exact leave_rt h
theorem call_rt0 {n : Nat} {c : DS} {ds : List D} {S : Store} {d : D} (e : c (ds.map some ++ List.replicate (n - ds.length) none) S = some (.rt d S)) (h : below 0 d = true) : callF n c ds S = some (d, S) := by
  unfold callF
  rw [e]
  exact leave_rt0 h

/-! ### comprehensions over plain items -/
section
variable {α : Type} {g : DG} {t : DT} {e : DE} {ρ : Env'} {S : Store}
theorem lcGo_fm (en : α → D) (p : α → Bool) (h : α → D) {xs : List D} : ∀ (l : List α) (acc : List D), (∀ x ∈ l, ∃ ρ1, g (en x) ρ = some ρ1 ∧ t ρ1 S = some (p x, S) ∧ (p x = true → e ρ1 S = some (h x, S))) →
    lcGo (lt1 g t e ρ) none xs (l.map en) acc S = some (acc ++ (l.filter p).map h, S)
  | [], acc, _ => by simp [lcGo, liveOk]
  | x :: l, acc, hh => by
    obtain ⟨ρ1, h1, h2, h3⟩ := hh x (by simp)
    have ih := lcGo_fm en p h (xs := xs) l
    simp only [List.map_cons, lcGo, liveOk, if_true, lt1, h1, h2]
    cases hp : p x with
    | false =>
      simp only [hp]
      rw [ih acc fun y hy => hh y (by simp [hy])]
      simp [List.filter_cons, hp]
    | true =>
      simp only [hp, h3 hp]
      rw [ih _ fun y hy => hh y (by simp [hy])]
      simp [List.filter_cons, hp]
theorem cLC_fm {vs : List Nat} {ci : DI} {xs : List D} {l : List α} (en : α → D) (p : α → Bool) (h : α → D) (hi : ci ρ S = some ((xs, none), S)) (hx : xs = l.map en) (hz : l.length ≤ sizeLine)
    (hh : ∀ x ∈ l, ∃ ρ1, g (en x) (wipeD ρ vs) = some ρ1 ∧ t ρ1 S = some (p x, S) ∧ (p x = true → e ρ1 S = some (h x, S))) : cLC vs false ci (lt1 g t e) ρ S = some (.lst ((l.filter p).map h), S) := by
  unfold cLC
  rw [hi]
  simp only
  subst hx
  rw [lcGo_fm en p h l [] hh]
  simp only [List.nil_append, mkL]
  rw [if_pos, if_neg (by decide)]
  rw [List.length_map]
  exact Nat.le_trans (List.length_filter_le _ _) hz
theorem cLC_map {vs : List Nat} {ci : DI} {xs : List D} {l : List α} (en : α → D) (h : α → D) (hi : ci ρ S = some ((xs, none), S)) (hx : xs = l.map en) (hz : l.length ≤ sizeLine)
    (hh : ∀ x ∈ l, ∃ ρ1, g (en x) (wipeD ρ vs) = some ρ1 ∧ e ρ1 S = some (h x, S)) : cLC vs false ci (lt1 g tYesD e) ρ S = some (.lst (l.map h), S) := by
  rw [cLC_fm en (fun _ => true) h hi hx hz fun x hx => let ⟨ρ1, h1, h2⟩ := hh x hx; ⟨ρ1, h1, rfl, fun _ => h2⟩]
  rw [List.filter_eq_self.mpr fun _ _ => rfl]
/-- the same, into a new cell -/
theorem cLC_fmB {vs : List Nat} {ci : DI} {xs : List D} {l : List α} (en : α → D) (p : α → Bool) (h : α → D) (hi : ci ρ S = some ((xs, none), S)) (hx : xs = l.map en) (hz : l.length ≤ sizeLine)
    (hh : ∀ x ∈ l, ∃ ρ1, g (en x) (wipeD ρ vs) = some ρ1 ∧ t ρ1 S = some (p x, S) ∧ (p x = true → e ρ1 S = some (h x, S))) : cLC vs true ci (lt1 g t e) ρ S = some (.ref S.length, S ++ [.lst ((l.filter p).map h)]) := by
  unfold cLC
  rw [hi]
  simp only
  subst hx
  rw [lcGo_fm en p h l [] hh]
  simp only [List.nil_append, mkL]
  rw [if_pos, if_pos trivial]
  rw [List.length_map]
  exact Nat.le_trans (List.length_filter_le _ _) hz
end
theorem asInts_map {α : Type} (f : α → Int) : ∀ l : List α, asInts (l.map fun x => .int (f x)) = some (l.map f)
  | [] => rfl
  | x :: l => by
    show (asInts (l.map fun x => .int (f x))).map (f x :: ·) = _
    rw [asInts_map f l]; rfl
theorem asBls_map {α : Type} (f : α → Bool) : ∀ l : List α, asBls (l.map fun x => .bl (f x)) = some (l.map f)
  | [] => rfl
  | x :: l => by
    show (asBls (l.map fun x => .bl (f x))).map (f x :: ·) = _
    rw [asBls_map f l]; rfl

/-! ### loops -/
section
variable {α : Type} {g : DG} {b : DS} {xs : List D}
theorem forL_ex (en : α → D) (I : List α → Env' → Store → Prop) (Post : Fl → Prop)
    (step : ∀ y ys ρ S, I (y :: ys) ρ S → ∃ ρ1, g (en y) ρ = some ρ1 ∧ ∃ f, b ρ1 S = some f ∧ (match f with
      | .nx ρ' S' => I ys ρ' S'
      | .ct ρ' S' => I ys ρ' S'
      | .bk ρ' S' => Post (.nx ρ' S')
      | .rt d S' => Post (.rt d S'))) (done : ∀ ρ S, I [] ρ S → Post (.nx ρ S)) :
    ∀ (l : List α) ρ S, I l ρ S → ∃ f, forL g b none xs (l.map en) ρ S = some f ∧ Post f
  | [], ρ, S, h => ⟨_, by simp [forL, liveOk], done ρ S h⟩
  | y :: l, ρ, S, h => by
    obtain ⟨ρ1, h1, f, h2, h3⟩ := step y l ρ S h
    simp only [List.map_cons, forL, liveOk, if_true, h1, h2]
    cases f with
    | nx ρ' S' => exact forL_ex en I Post step done l ρ' S' h3
    | ct ρ' S' => exact forL_ex en I Post step done l ρ' S' h3
    | bk ρ' S' => exact ⟨_, rfl, h3⟩
    | rt d S' => exact ⟨_, rfl, h3⟩
/-- no early way out -/
theorem forL_inv (en : α → D) (I : List α → Env' → Store → Prop)
    (step : ∀ y ys ρ S, I (y :: ys) ρ S → ∃ ρ1, g (en y) ρ = some ρ1 ∧ ∃ ρ' S', b ρ1 S = some (.nx ρ' S') ∧ I ys ρ' S') :
    ∀ (l : List α) ρ S, I l ρ S → ∃ ρ' S', forL g b none xs (l.map en) ρ S = some (.nx ρ' S') ∧ I [] ρ' S' := fun l ρ S h => by
  obtain ⟨f, h1, h2⟩ := forL_ex (g := g) (b := b) (xs := xs) en I (fun f => match f with | .nx ρ' S' => I [] ρ' S' | _ => False)
    (fun y ys ρ S h => let ⟨ρ1, e1, ρ', S', e2, q⟩ := step y ys ρ S h; ⟨ρ1, e1, _, e2, q⟩) (fun ρ S h => h) l ρ S h
  cases f with
  | nx ρ' S' => exact ⟨ρ', S', h1, h2⟩
  | _ => exact h2.elim
end
theorem rng_map (n : Nat) : (itRange 0 n).1 = (List.range n).map fun i => D.int (i : Nat) := by
  simp [itRange]
theorem atI_end {α : Type} {l : List α} {x : α} : L2.atI (l ++ [x]) (-1) = some x := by
  unfold L2.atI L2.ixN
  rw [if_neg (by omega), if_pos (by simp; omega)]
  have e : ((-1 : Int) + ((l.length : Int) + 1)).toNat = l.length := by omega
  simp [e]

/-! ### statements, by what is wanted behind them -/
def Ev (c : DS) (ρ : Env') (S : Store) (Post : Fl → Prop) : Prop := ∃ f, c ρ S = some f ∧ Post f
/-- behind the first of two -/
def thenEv (b : DS) (Post : Fl → Prop) : Fl → Prop
  | .nx ρ' S' => Ev b ρ' S' Post
  | f => Post f
/-- behind a turn -/
def turnEv (I : Env' → Store → Prop) (Post : Fl → Prop) : Fl → Prop
  | .nx ρ' S' => I ρ' S'
  | .ct ρ' S' => I ρ' S'
  | .bk ρ' S' => Post (.nx ρ' S')
  | .rt d S' => Post (.rt d S')
section
variable {a b : DS} {ρ ρ' : Env'} {S S' : Store} {Post : Fl → Prop} {ce : DE} {ct : DT} {g : DG} {d : D} {ci : DI}
theorem Ev.seq (h : Ev a ρ S (thenEv b Post)) : Ev (sSeq a b) ρ S Post := by
  obtain ⟨f, e, q⟩ := h
  cases f with
  | nx ρ' S' =>
    obtain ⟨f', e', q'⟩ := q
    exact ⟨f', by simp only [sSeq, e, e'], q'⟩
  | rt d S' => exact ⟨_, by simp only [sSeq, e], q⟩
  | bk d S' => exact ⟨_, by simp only [sSeq, e], q⟩
  | ct d S' => exact ⟨_, by simp only [sSeq, e], q⟩
theorem Ev.next (h : Post (.nx ρ S)) : Ev sNext ρ S Post := ⟨_, rfl, h⟩
theorem Ev.set (h : ce ρ S = some (d, S')) (hg : g d ρ = some ρ') (q : Post (.nx ρ' S')) : Ev (sSet g ce) ρ S Post := ⟨_, by simp only [sSet, h, hg], q⟩
theorem Ev.setN {i : Nat} (h : ce ρ S = some (d, S')) (q : Post (.nx (ρ.set i (some d)) S')) : Ev (sSet (gN i) ce) ρ S Post := Ev.set h rfl q
theorem Ev.ret (h : ce ρ S = some (d, S')) (q : Post (.rt d S')) : Ev (sRet ce) ρ S Post := ⟨_, by simp only [sRet, h], q⟩
theorem Ev.expr (h : ce ρ S = some (d, S')) (q : Post (.nx ρ S')) : Ev (sExpr ce) ρ S Post := ⟨_, by simp only [sExpr, h], q⟩
theorem Ev.brk (q : Post (.bk ρ S)) : Ev sBreak ρ S Post := ⟨_, rfl, q⟩
theorem Ev.ite {c : Bool} (h : ct ρ S = some (c, S')) (q1 : c = true → Ev a ρ S' Post) (q2 : c = false → Ev b ρ S' Post) : Ev (sIf ct a b) ρ S Post := by
  cases c with
  | true =>
    obtain ⟨f, e, q⟩ := q1 rfl
    exact ⟨f, by simp only [sIf, h, e], q⟩
  | false =>
    obtain ⟨f, e, q⟩ := q2 rfl
    exact ⟨f, by simp only [sIf, h, e], q⟩
theorem Ev.ifT (h : ct ρ S = some (true, S')) (q : Ev a ρ S' Post) : Ev (sIf ct a b) ρ S Post := Ev.ite h (fun _ => q) fun z => by cases z
theorem Ev.ifF (h : ct ρ S = some (false, S')) (q : Ev b ρ S' Post) : Ev (sIf ct a b) ρ S Post := Ev.ite h (fun z => by cases z) fun _ => q
theorem Ev.for_ {α : Type} (en : α → D) (I : List α → Env' → Store → Prop) {xs : List D} {l : List α} (hi : ci ρ S = some ((xs, none), S')) (hx : xs = l.map en) (start : I l ρ S')
    (step : ∀ y ys ρ S, I (y :: ys) ρ S → ∃ ρ1, g (en y) ρ = some ρ1 ∧ Ev b ρ1 S (turnEv (I ys) Post)) (done : ∀ ρ S, I [] ρ S → Post (.nx ρ S)) : Ev (sFor ci g b) ρ S Post := by
  subst hx
  obtain ⟨f, e, q⟩ := forL_ex (g := g) (b := b) (xs := l.map en) en I Post (fun y ys ρ S h => by
    obtain ⟨ρ1, h1, f, h2, h3⟩ := step y ys ρ S h
    refine ⟨ρ1, h1, f, h2, ?_⟩
    cases f <;> exact h3) done l ρ S' start
  exact ⟨f, by simp only [sFor, hi, e], q⟩
theorem Ev.imp {P Q : Fl → Prop} (h : Ev a ρ S P) (i : ∀ f, P f → Q f) : Ev a ρ S Q := let ⟨f, e, q⟩ := h; ⟨f, e, i f q⟩
theorem Ev.while_ {α : Type} (I : α → Env' → Store → Prop) (m : α → Nat) (x : α) (start : I x ρ S)
    (step : ∀ x ρ S, I x ρ S → ∃ c S', ct ρ S = some (c, S') ∧ (c = false → Post (.nx ρ S')) ∧ (c = true → Ev a ρ S' (turnEv (fun ρ S => ∃ y, m y < m x ∧ I y ρ S) Post))) : Ev (sWhile ct a) ρ S Post := by
  have key : ∀ (k : Nat) (x : α) (ρ : Env') (S : Store), m x < k → I x ρ S → ∃ f, whileN ct a k ρ S = some f ∧ Post f := by
    intro k
    induction k with
    | zero => intro x ρ S h; omega
    | succ k ih =>
      intro x ρ S hm hI
      obtain ⟨c, S1, h1, h2, h3⟩ := step x ρ S hI
      unfold whileN
      rw [h1]
      cases c with
      | false => exact ⟨_, rfl, h2 rfl⟩
      | true =>
        obtain ⟨f, e, q⟩ := h3 rfl
        simp only [e]
        cases f with
        | nx ρ' S' =>
          obtain ⟨y, hy, q⟩ := q
          exact ih y ρ' S' (by omega) q
        | ct ρ' S' =>
          obtain ⟨y, hy, q⟩ := q
          exact ih y ρ' S' (by omega) q
        | bk ρ' S' => exact ⟨_, rfl, q⟩
        | rt d S' => exact ⟨_, rfl, q⟩
  obtain ⟨f, e, q⟩ := key (m x + 1) x ρ S (Nat.lt_succ_self _) start
  exact ⟨f, sWhile_of e, q⟩
theorem call_ev {n : Nat} {c : DS} {ds : List D} (h : Ev c (ds.map some ++ List.replicate (n - ds.length) none) S (fun f => ∃ T, f = .rt d (S ++ T))) (hb : below 0 d = true) : callF n c ds S = some (d, S) := by
  obtain ⟨f, e, T, rfl⟩ := h
  exact call_rt e hb
end
end DL

namespace K88
open PySem PySem.Spec PyProof.Rows L2 DL
noncomputable def c_noughts : DS := (sRet (cApp tupleD (cCons (cLC [1] false (cRng1 (cVar 0)) (lt1 (gN 1) tYesD (cC (.int 0)))) cNil)))
noncomputable def f_noughts : DF := callF 2 c_noughts
noncomputable def c_poured : DS := (sRet (cApp tupleD (cCons (cLC [2, 3] false (cZip (cVar 0) (cVar 1)) (lt1 (gT 2 (gsCons (gN 2) (gsCons (gN 3) gsNil))) tYesD (cBin addD (cVar 2) (cVar 3)))) cNil)))
noncomputable def f_poured : DF := callF 4 c_poured
noncomputable def c_moves_of : DS := (sRet (cBin ixD (cBin ixD (cBin ixD (cVar 0) (cC (.int 1))) (cVar 1)) (cC (.int 1))))
noncomputable def f_moves_of : DF := callF 2 c_moves_of
noncomputable def c_level_course : DS := (sSeq (sSet (gN 4) (cVar 1))
  (sSeq (sSet (gN 5) (cApp mkBox (cCons (cVar 2) cNil)))
  (sSeq (sFor (cItS (cVar 3)) (gN 6) (sSeq (sSet (gT 3 (gsCons (gN 7) (gsCons (gN 8) (gsCons (gN 9) gsNil)))) (cBin ixD (cApp (nD 2 f_moves_of) (cCons (cVar 0) (cCons (cVar 4) cNil))) (cVar 6)))
  (sSeq (sExpr (cM apnd (cVar 5) (cCons (cApp (nD 2 f_poured) (cCons (cBin ixD (cVar 5) (cUn negD (cC (.int 1)))) (cCons (cVar 8) cNil))) cNil)))
  (sSet (gN 4) (cVar 9)))))
  (sRet (cApp tupleD (cCons (cVar 5) cNil))))))
noncomputable def f_level_course : DF := callF 10 c_level_course
noncomputable def c_lesser_of : DS := (sRet (cApp tupleD (cCons (cLC [2, 3] false (cZip (cVar 0) (cVar 1)) (lt1 (gT 2 (gsCons (gN 2) (gsCons (gN 3) gsNil))) tYesD (cApp min2D (cCons (cVar 2) (cCons (cVar 3) cNil))))) cNil)))
noncomputable def f_lesser_of : DF := callF 4 c_lesser_of
noncomputable def c_needed_levels : DS := (sSeq (sSet (gN 3) (cApp (nD 1 f_noughts) (cCons (cBin ixD (cVar 0) (cC (.int 0))) cNil)))
  (sSeq (sFor (cItS (cApp (nD 4 f_level_course) (cCons (cVar 0) (cCons (cVar 1) (cCons (cApp (nD 1 f_noughts) (cCons (cBin ixD (cVar 0) (cC (.int 0))) cNil)) (cCons (cVar 2) cNil)))))) (gN 4) (sSet (gN 3) (cApp (nD 2 f_lesser_of) (cCons (cVar 3) (cCons (cVar 4) cNil)))))
  (sRet (cApp tupleD (cCons (cLC [5] false (cItS (cVar 3)) (lt1 (gN 5) tYesD (cUn negD (cVar 5)))) cNil)))))
noncomputable def f_needed_levels : DF := callF 6 c_needed_levels
noncomputable def c__law_whole : DS := (sRet (cAndV (cUn (isiD "int") (cVar 0)) (cNotV (cUn (isiD "bool") (cVar 0)))))
noncomputable def f__law_whole : DF := callF 1 c__law_whole
noncomputable def c__law_same : DS := (sSeq (sSet (gN 2) (cApp mkBox (cCons (cApp mkTup (cCons (cVar 0) (cCons (cVar 1) cNil))) cNil)))
  (sSeq (sFor (cRng1 (cC (.int 100000))) (gN 3) (sSeq (sIf (cB (cBin eqD (cApp lenD (cCons (cVar 2) cNil)) (cC (.int 0)))) (sRet (cC (.bl true))) sNext)
  (sSeq (sSet (gT 2 (gsCons (gN 4) (gsCons (gN 5) gsNil))) (cM popM (cVar 2) cNil))
  (sIf (cB (cUn (isiD "tuple") (cVar 5))) (sSeq (sIf (cOr (cNot (cB (cUn (isiD "tuple") (cVar 4)))) (cB (cBin neD (cApp lenD (cCons (cVar 4) cNil)) (cApp lenD (cCons (cVar 5) cNil))))) (sRet (cC (.bl false))) sNext)
  (sFor (cRng1 (cApp lenD (cCons (cVar 5) cNil))) (gN 6) (sExpr (cM apnd (cVar 2) (cCons (cApp mkTup (cCons (cBin ixD (cVar 4) (cVar 6)) (cCons (cBin ixD (cVar 5) (cVar 6)) cNil))) cNil))))) (sIf (cOr (cNot (cB (cApp (nD 1 f__law_whole) (cCons (cVar 4) cNil)))) (cB (cBin neD (cVar 4) (cVar 5)))) (sRet (cC (.bl false))) sNext)))))
  (sRet (cC (.bl false)))))
noncomputable def f__law_same : DF := callF 7 c__law_same
noncomputable def c_pour_sum : DS := (sRet (cBin ixD (cApp (nD 4 f_level_course) (cCons (cVar 0) (cCons (cVar 1) (cCons (cApp (nD 1 f_noughts) (cCons (cBin ixD (cVar 0) (cC (.int 0))) cNil)) (cCons (cVar 2) cNil))))) (cUn negD (cC (.int 1)))))
noncomputable def f_pour_sum : DF := callF 3 c_pour_sum
noncomputable def c_is_integer : DS := (sRet (cAndV (cUn (isiD "int") (cVar 0)) (cNotV (cUn (isiD "bool") (cVar 0)))))
noncomputable def f_is_integer : DF := callF 1 c_is_integer
noncomputable def c_integer_within : DS := (sRet (cAndV (cApp (nD 1 f_is_integer) (cCons (cVar 0) cNil)) (cChain leD leD (cVar 1) (cVar 0) (cVar 2))))
noncomputable def f_integer_within : DF := callF 3 c_integer_within
noncomputable def c_is_dry : DS := (sRet (cApp anyD (cCons (cLC [1] false (cItS (cVar 0)) (lt1 (gN 1) tYesD (cBin ltD (cVar 1) (cC (.int 0))))) cNil)))
noncomputable def f_is_dry : DF := callF 2 c_is_dry
noncomputable def c_check_play : DS := (sSeq (sIf (cOr (cNot (cB (cUn (isiD "tuple") (cVar 3)))) (cB (cBin gtD (cApp lenD (cCons (cVar 3) cNil)) (cC (.int 600))))) sNever sNext)
  (sSeq (sSet (gN 4) (cVar 1))
  (sSeq (sFor (cEnum (cVar 3)) (gT 2 (gsCons (gN 5) (gsCons (gN 6) gsNil))) (sSeq (sSet (gN 7) (cApp (nD 2 f_moves_of) (cCons (cVar 0) (cCons (cVar 4) cNil))))
  (sSeq (sIf (cOr (cB (cApp (nD 1 f_is_dry) (cCons (cVar 2) cNil))) (cNot (cTr (cVar 7)))) sNever sNext)
  (sSeq (sIf (cNot (cB (cApp (nD 3 f_integer_within) (cCons (cVar 6) (cCons (cC (.int 0)) (cCons (cBin subD (cApp lenD (cCons (cVar 7) cNil)) (cC (.int 1))) cNil)))))) sNever sNext)
  (sSeq (sSet (gN 2) (cApp (nD 2 f_poured) (cCons (cVar 2) (cCons (cBin ixD (cBin ixD (cVar 7) (cVar 6)) (cC (.int 1))) cNil))))
  (sSet (gN 4) (cBin ixD (cBin ixD (cVar 7) (cVar 6)) (cC (.int 2)))))))))
  (sRet (cApp lenD (cCons (cVar 3) cNil))))))
noncomputable def f_check_play : DF := callF 8 c_check_play
noncomputable def c__law_course : DS := (sSeq (sSet (gT 2 (gsCons (gN 4) (gsCons (gN 5) gsNil))) (cApp mkTup (cCons (cApp mkBox (cCons (cVar 2) cNil)) (cCons (cVar 1) cNil))))
  (sSeq (sFor (cItS (cVar 3)) (gN 6) (sSeq (sIf (cOr (cNot (cB (cApp (nD 1 f__law_whole) (cCons (cVar 6) cNil)))) (cOr (cB (cBin ltD (cVar 6) (cC (.int 0)))) (cB (cBin geD (cVar 6) (cApp lenD (cCons (cBin ixD (cBin ixD (cBin ixD (cVar 0) (cC (.int 1))) (cVar 5)) (cC (.int 1))) cNil)))))) (sRet (cC .non)) sNext)
  (sSeq (sSet (gT 3 (gsCons (gN 7) (gsCons (gN 8) (gsCons (gN 9) gsNil)))) (cBin ixD (cBin ixD (cBin ixD (cBin ixD (cVar 0) (cC (.int 1))) (cVar 5)) (cC (.int 1))) (cVar 6)))
  (sSeq (sExpr (cM apnd (cVar 4) (cCons (cApp tupleD (cCons (cLC [10] false (cRng1 (cBin ixD (cVar 0) (cC (.int 0)))) (lt1 (gN 10) tYesD (cBin addD (cBin ixD (cBin ixD (cVar 4) (cUn negD (cC (.int 1)))) (cVar 10)) (cBin ixD (cVar 8) (cVar 10))))) cNil)) cNil)))
  (sSet (gN 5) (cVar 9))))))
  (sRet (cApp mkTup (cCons (cFrz (cVar 4)) (cCons (cVar 5) cNil))))))
noncomputable def f__law_course : DF := callF 11 c__law_course
noncomputable def c__law_told : DS := (sSeq (sSet (gT 2 (gsCons (gN 4) (gsCons (gN 5) gsNil))) (cApp (nD 4 f__law_course) (cCons (cVar 0) (cCons (cVar 1) (cCons (cVar 2) (cCons (cVar 3) cNil))))))
  (sSeq (sIf (cNot (cB (cApp (nD 2 f__law_same) (cCons (cApp (nD 4 f_check_play) (cCons (cVar 0) (cCons (cVar 1) (cCons (cVar 2) (cCons (cVar 3) cNil))))) (cCons (cApp lenD (cCons (cVar 3) cNil)) cNil))))) (sRet (cC (.bl false))) sNext)
  (sSeq (sIf (cNot (cB (cApp (nD 2 f__law_same) (cCons (cApp (nD 4 f_level_course) (cCons (cVar 0) (cCons (cVar 1) (cCons (cVar 2) (cCons (cVar 3) cNil))))) (cCons (cApp tupleD (cCons (cVar 4) cNil)) cNil))))) (sRet (cC (.bl false))) sNext)
  (sSeq (sSet (gN 6) (cApp tupleD (cCons (cLC [8] false (cRng1 (cBin ixD (cVar 0) (cC (.int 0)))) (lt1 (gN 8) tYesD (cBin subD (cBin ixD (cBin ixD (cVar 4) (cUn negD (cC (.int 1)))) (cVar 8)) (cBin ixD (cVar 2) (cVar 8))))) cNil)))
  (sSeq (sSet (gN 7) (cApp tupleD (cCons (cLC [8] false (cRng1 (cBin ixD (cVar 0) (cC (.int 0)))) (lt1 (gN 8) tYesD (cApp max2D (cCons (cBin addD (cApp mkLst (cCons (cC (.int 0)) cNil)) (cLC [9] false (cItS (cVar 4)) (lt1 (gN 9) tYesD (cBin subD (cBin ixD (cVar 2) (cVar 8)) (cBin ixD (cVar 9) (cVar 8)))))) cNil)))) cNil)))
  (sSeq (sIf (cNot (cB (cApp (nD 2 f__law_same) (cCons (cApp (nD 3 f_pour_sum) (cCons (cVar 0) (cCons (cVar 1) (cCons (cVar 3) cNil)))) (cCons (cVar 6) cNil))))) (sRet (cC (.bl false))) sNext)
  (sRet (cApp (nD 2 f__law_same) (cCons (cApp (nD 3 f_needed_levels) (cCons (cVar 0) (cCons (cVar 1) (cCons (cVar 3) cNil)))) (cCons (cVar 7) cNil))))))))))
noncomputable def f__law_told : DF := callF 10 c__law_told
noncomputable def c__law_least : DS := (sRet (cBin eqD (cApp lenD (cCons (cLC [2] false (cRng1 (cApp lenD (cCons (cVar 0) cNil))) (lt1 (gN 2) (cB (cBin ltD (cBin ixD (cVar 0) (cVar 2)) (cBin ixD (cVar 1) (cVar 2)))) (cVar 2))) cNil)) (cC (.int 0))))
noncomputable def f__law_least : DF := callF 3 c__law_least
noncomputable def c__law_right : DS := (sSeq (sIf (cOr (cB (cBin isND (cVar 6) (cC .non))) (cB (cBin isND (cVar 5) (cC .non)))) (sRet (cAndV (cBin isND (cVar 6) (cC .non)) (cBin isND (cVar 5) (cC .non)))) sNext)
  (sSeq (sIf (cOr (cNot (cB (cUn (isiD "tuple") (cVar 5)))) (cB (cBin neD (cApp lenD (cCons (cVar 5) cNil)) (cVar 6)))) (sRet (cC (.bl false))) sNext)
  (sSeq (sSet (gN 7) (cApp (nD 4 f__law_course) (cCons (cVar 0) (cCons (cVar 1) (cCons (cVar 2) (cCons (cVar 5) cNil))))))
  (sSeq (sIf (cOr (cB (cBin isND (cVar 7) (cC .non))) (cB (cBin gtD (cApp lenD (cCons (cLC [8] false (cItS (cBin ixD (cVar 7) (cC (.int 0)))) (lt1 (gN 8) (cB (cBin ltD (cApp min2D (cCons (cVar 8) cNil)) (cC (.int 0)))) (cVar 8))) cNil)) (cC (.int 0))))) (sRet (cC (.bl false))) sNext)
  (sRet (cAndV (cOrV (cBin isND (cVar 3) (cC .non)) (cBin eqD (cBin ixD (cVar 7) (cC (.int 1))) (cVar 3))) (cApp (nD 2 f__law_least) (cCons (cBin ixD (cBin ixD (cVar 7) (cC (.int 0))) (cUn negD (cC (.int 1)))) (cCons (cVar 4) cNil)))))))))
noncomputable def f__law_right : DF := callF 9 c__law_right
noncomputable def c_layer_behind : DS := (sSeq (sSet (gN 3) (cApp mkBox cNil))
  (sSeq (sFor (cItS (cVar 2)) (gN 4) (sSeq (sSet (gT 2 (gsCons (gN 5) (gsCons (gN 6) gsNil))) (cVar 4))
  (sFor (cEnum (cApp (nD 2 f_moves_of) (cCons (cVar 0) (cCons (cVar 5) cNil)))) (gT 2 (gsCons (gN 7) (gsCons (gN 8) gsNil))) (sSeq (sSet (gN 9) (cApp mkTup (cCons (cBin ixD (cVar 8) (cC (.int 2))) (cCons (cApp (nD 2 f_poured) (cCons (cVar 6) (cCons (cBin ixD (cVar 8) (cC (.int 1))) cNil))) cNil))))
  (sIf (cAnd (cNot (cB (cApp (nD 1 f_is_dry) (cCons (cBin ixD (cVar 9) (cC (.int 1))) cNil)))) (cB (cBin dNotInD (cVar 9) (cVar 1)))) (sSeq (sDPutC (cVar 1) (cVar 9) (cApp mkTup (cCons (cVar 4) (cCons (cVar 7) cNil))))
  (sExpr (cM apnd (cVar 3) (cCons (cVar 9) cNil)))) sNext)))))
  (sRet (cFrz (cVar 3)))))
noncomputable def f_layer_behind : DF := callF 10 c_layer_behind
noncomputable def c_at_least : DS := (sRet (cApp allD (cCons (cLC [2, 3] false (cZip (cVar 0) (cVar 1)) (lt1 (gT 2 (gsCons (gN 2) (gsCons (gN 3) gsNil))) tYesD (cBin geD (cVar 2) (cVar 3)))) cNil)))
noncomputable def f_at_least : DF := callF 4 c_at_least
noncomputable def c_led_back : DS := (sSeq (sSet (gN 2) (cApp mkBox cNil))
  (sSeq (sWhile (cB (cBin notND (cBin dGetD (cVar 0) (cVar 1)) (cC .non))) (sSeq (sSet (gT 2 (gsCons (gN 3) (gsCons (gN 4) gsNil))) (cBin dGetD (cVar 0) (cVar 1)))
  (sSeq (sExpr (cM apnd (cVar 2) (cCons (cVar 4) cNil)))
  (sSet (gN 1) (cVar 3)))))
  (sRet (cApp tupleD (cCons (cUn revD (cVar 2)) cNil)))))
noncomputable def f_led_back : DF := callF 5 c_led_back
noncomputable def c_searched : DS := (sSeq (sSet (gN 6) (cDisp true (cApp mkTup (cCons (cVar 1) (cCons (cVar 2) cNil))) (cC .non)))
  (sSeq (sSet (gN 7) (cApp mkLst (cCons (cApp mkTup (cCons (cVar 1) (cCons (cVar 2) cNil))) cNil)))
  (sSeq (sFor (cRng1 (cBin addD (cVar 5) (cC (.int 1)))) (gN 8) (sSeq (sFor (cItS (cVar 7)) (gN 9) (sIf (cAnd (cOr (cB (cBin isND (cVar 3) (cC .non))) (cB (cBin eqD (cBin ixD (cVar 9) (cC (.int 0))) (cVar 3)))) (cB (cApp (nD 2 f_at_least) (cCons (cBin ixD (cVar 9) (cC (.int 1))) (cCons (cVar 4) cNil))))) (sRet (cApp (nD 2 f_led_back) (cCons (cVar 6) (cCons (cVar 9) cNil)))) sNext))
  (sSet (gN 7) (cApp (nD 3 f_layer_behind) (cCons (cVar 0) (cCons (cVar 6) (cCons (cVar 7) cNil)))))))
  (sRet (cC .non)))))
noncomputable def f_searched : DF := callF 10 c_searched
noncomputable def c_can_come : DS := (sRet (cApp (nD 6 f_searched) (cCons (cVar 0) (cCons (cVar 1) (cCons (cVar 2) (cCons (cVar 3) (cCons (cApp tupleD (cCons (cLC [5] false (cItS (cVar 2)) (lt1 (gN 5) tYesD (cC (.int 0)))) cNil)) (cCons (cVar 4) cNil))))))))
noncomputable def f_can_come : DF := callF 6 c_can_come
noncomputable def c__law_comes : DS := (sSeq (sSet (gN 6) (cApp (nD 5 f_can_come) (cCons (cVar 0) (cCons (cVar 1) (cCons (cVar 2) (cCons (cVar 3) (cCons (cVar 4) cNil)))))))
  (sSeq (sIf (cNot (cB (cApp (nD 7 f__law_right) (cCons (cVar 0) (cCons (cVar 1) (cCons (cVar 2) (cCons (cVar 3) (cCons (cBin repD (cApp mkTup (cCons (cC (.int 0)) cNil)) (cBin ixD (cVar 0) (cC (.int 0)))) (cCons (cVar 6) (cCons (cVar 5) cNil)))))))))) (sRet (cC (.bl false))) sNext)
  (sRet (cOrV (cBin isND (cVar 6) (cC .non)) (cApp (nD 4 f__law_told) (cCons (cVar 0) (cCons (cVar 1) (cCons (cVar 2) (cCons (cVar 6) cNil)))))))))
noncomputable def f__law_comes : DF := callF 7 c__law_comes
noncomputable def c_fewest_moves : DS := (sRet (cApp (nD 6 f_searched) (cCons (cVar 0) (cCons (cVar 1) (cCons (cVar 2) (cCons (cC .non) (cCons (cVar 3) (cCons (cVar 4) cNil))))))))
noncomputable def f_fewest_moves : DF := callF 5 c_fewest_moves
noncomputable def c__law_wants : DS := (sSeq (sSet (gN 6) (cApp (nD 5 f_fewest_moves) (cCons (cVar 0) (cCons (cVar 1) (cCons (cVar 2) (cCons (cVar 3) (cCons (cVar 4) cNil)))))))
  (sSeq (sIf (cNot (cB (cApp (nD 7 f__law_right) (cCons (cVar 0) (cCons (cVar 1) (cCons (cVar 2) (cCons (cC .non) (cCons (cVar 3) (cCons (cVar 6) (cCons (cVar 5) cNil)))))))))) (sRet (cC (.bl false))) sNext)
  (sRet (cOrV (cBin isND (cVar 6) (cC .non)) (cApp (nD 4 f__law_told) (cCons (cVar 0) (cCons (cVar 1) (cCons (cVar 2) (cCons (cVar 6) cNil)))))))))
noncomputable def f__law_wants : DF := callF 7 c__law_wants
noncomputable def c__law_laps : DS := (sRet (cApp max2D (cCons (cC (.int 0)) (cCons (cUn negD (cBin fdivD (cBin subD (cVar 1) (cVar 0)) (cVar 2))) cNil))))
noncomputable def f__law_laps : DF := callF 3 c__law_laps
noncomputable def c__law_pumps : DS := (sSeq (sSet (gN 2) (cLC [10] false (cRng1 (cC (.int 2))) (lt1 (gN 10) tYesD (cBin addD (cC (.int 1)) (cBin modD (cApp intD (cCons (cBin ixD (cVar 0) (cVar 10)) cNil)) (cC (.int 3)))))))
  (sSeq (sSet (gN 3) (cApp mkTup (cCons (cBin modD (cApp intD (cCons (cBin ixD (cVar 0) (cC (.int 2))) cNil)) (cC (.int 4))) (cCons (cBin modD (cApp intD (cCons (cBin ixD (cVar 0) (cC (.int 3))) cNil)) (cC (.int 4))) cNil))))
  (sSeq (sSet (gN 4) (cApp mkTup (cCons (cBin modD (cApp intD (cCons (cBin ixD (cVar 0) (cC (.int 4))) cNil)) (cC (.int 9))) (cCons (cBin modD (cApp intD (cCons (cBin ixD (cVar 0) (cC (.int 5))) cNil)) (cC (.int 9))) cNil))))
  (sSeq (sIf (cTr (cVar 1)) (sPar3 2 3 4 (cCons (cApp mkLst (cCons (cC (.int 1)) (cCons (cC (.int 1)) cNil))) (cCons (cApp mkTup (cCons (cBin modD (cApp intD (cCons (cBin ixD (cVar 0) (cC (.int 2))) cNil)) (cC (.int 9))) (cCons (cC (.int 2)) cNil))) (cCons (cApp mkTup (cCons (cBin addD (cC (.int 90)) (cBin modD (cApp intD (cCons (cBin ixD (cVar 0) (cC (.int 4))) cNil)) (cC (.int 500)))) (cCons (cBin modD (cApp intD (cCons (cBin ixD (cVar 0) (cC (.int 5))) cNil)) (cC (.int 3))) cNil))) cNil)))) sNext)
  (sSeq (sSet (gN 5) (cBin ixD (cApp mkLst (cCons (cC (.str "house")) (cCons (cC (.str "outside")) cNil))) (cBin modD (cApp intD (cCons (cBin ixD (cVar 0) (cC (.int 6))) cNil)) (cC (.int 2)))))
  (sSeq (sSet (gN 6) (cApp mkLst (cCons (cApp mkTup (cCons (cC (.str "p")) (cCons (cApp mkTup (cCons (cBin ixD (cVar 2) (cC (.int 0))) (cCons (cC (.int 0)) cNil))) (cCons (cC (.int 0)) cNil)))) (cCons (cApp mkTup (cCons (cC (.str "go")) (cCons (cApp mkTup (cCons (cUn negD (cBin ixD (cVar 4) (cC (.int 0)))) (cCons (cUn negD (cBin ixD (cVar 4) (cC (.int 1)))) cNil))) (cCons (cC (.int 1)) cNil)))) (cCons (cApp mkTup (cCons (cC (.str "q")) (cCons (cApp mkTup (cCons (cC (.int 0)) (cCons (cBin ixD (cVar 2) (cC (.int 1))) cNil))) (cCons (cC (.int 0)) cNil)))) cNil)))))
  (sSeq (sSet (gN 6) (cIf (cTr (cVar 1)) (cSl false (cVar 6) oNo (oSome (cC (.int 2)))) (cVar 6)))
  (sSeq (sSet (gN 7) (cBin modD (cApp intD (cCons (cBin ixD (cVar 0) (cC (.int 7))) cNil)) (cApp lenD (cCons (cVar 6) cNil))))
  (sSeq (sSet (gN 8) (cApp mkTup (cCons (cC (.int 2)) (cCons (cApp mkTup (cCons (cApp mkTup (cCons (cVar 5) (cCons (cApp tupleD (cCons (cBin addD (cSl false (cVar 6) (oSome (cVar 7)) oNo) (cSl false (cVar 6) oNo (oSome (cVar 7)))) cNil)) cNil))) (cCons (cApp mkTup (cCons (cBin ixD (cApp mkLst (cCons (cC (.str "house")) (cCons (cC (.str "outside")) cNil))) (cBin modD (cApp intD (cCons (cBin ixD (cVar 0) (cC (.int 8))) cNil)) (cC (.int 2)))) (cCons (cApp mkTup cNil) cNil))) cNil))) cNil))))
  (sSeq (sSet (gN 9) (cBin addD (cApp (nD 3 f__law_laps) (cCons (cBin ixD (cVar 4) (cC (.int 0))) (cCons (cBin ixD (cVar 3) (cC (.int 0))) (cCons (cBin ixD (cVar 2) (cC (.int 0))) cNil)))) (cApp (nD 3 f__law_laps) (cCons (cBin ixD (cVar 4) (cC (.int 1))) (cCons (cBin ixD (cVar 3) (cC (.int 1))) (cCons (cBin ixD (cVar 2) (cC (.int 1))) cNil))))))
  (sSeq (sIf (cOr (cNot (cB (cApp (nD 6 f__law_comes) (cCons (cVar 8) (cCons (cC (.int 0)) (cCons (cVar 3) (cCons (cC (.int 1)) (cCons (cBin addD (cVar 9) (cC (.int 1))) (cCons (cBin addD (cVar 9) (cC (.int 1))) cNil))))))))) (cNot (cB (cApp (nD 6 f__law_comes) (cCons (cVar 8) (cCons (cC (.int 0)) (cCons (cVar 3) (cCons (cC (.int 1)) (cCons (cVar 9) (cCons (cC .non) cNil)))))))))) (sRet (cC (.bl false))) sNext)
  (sSeq (sIf (cNot (cB (cApp (nD 6 f__law_wants) (cCons (cVar 8) (cCons (cC (.int 0)) (cCons (cVar 3) (cCons (cVar 4) (cCons (cBin addD (cVar 9) (cBin modD (cApp intD (cCons (cBin ixD (cVar 0) (cC (.int 9))) cNil)) (cC (.int 3)))) (cCons (cVar 9) cNil))))))))) (sRet (cC (.bl false))) sNext)
  (sSeq (sIf (cAnd (cB (cBin gtD (cVar 9) (cC (.int 0)))) (cB (cBin notND (cApp (nD 5 f_fewest_moves) (cCons (cVar 8) (cCons (cC (.int 0)) (cCons (cVar 3) (cCons (cVar 4) (cCons (cBin subD (cVar 9) (cC (.int 1))) cNil)))))) (cC .non)))) (sRet (cC (.bl false))) sNext)
  (sRet (cAndV (cApp (nD 6 f__law_comes) (cCons (cVar 8) (cCons (cC (.int 1)) (cCons (cVar 3) (cCons (cC (.int 1)) (cCons (cBin modD (cApp intD (cCons (cBin ixD (cVar 0) (cC (.int 10))) cNil)) (cC (.int 5))) (cCons (cC (.int 0)) cNil))))))) (cBin isND (cApp (nD 5 f_can_come) (cCons (cVar 8) (cCons (cC (.int 1)) (cCons (cVar 3) (cCons (cC (.int 0)) (cCons (cC (.int 9)) cNil)))))) (cC .non)))))))))))))))))
noncomputable def f__law_pumps : DF := callF 11 c__law_pumps
noncomputable def c__law_ring : DS := (sSeq (sSet (gN 3) (cLC [12] true (cRng1 (cVar 1)) (lt1 (gN 12) tYesD (cBin subD (cBin modD (cApp intD (cCons (cBin ixD (cVar 0) (cVar 12)) cNil)) (cC (.int 7))) (cC (.int 3))))))
  (sSeq (sAugIx iaddD (cVar 3) (cBin modD (cApp intD (cCons (cBin ixD (cVar 0) (cC (.int 30))) cNil)) (cVar 1)) (cBin modD (cApp intD (cCons (cBin ixD (cVar 0) (cC (.int 31))) cNil)) (cC (.int 5))))
  (sSeq (sSet (gN 4) (cApp mkTup (cCons (cC (.int 1)) (cCons (cApp tupleD (cCons (cLC [12] false (cRng1 (cVar 1)) (lt1 (gN 12) tYesD (cApp mkTup (cCons (cC (.str "house")) (cCons (cApp mkTup (cCons (cApp mkTup (cCons (cC (.str "on")) (cCons (cApp mkTup (cCons (cBin ixD (cVar 3) (cVar 12)) cNil)) (cCons (cBin modD (cApp intD (cCons (cBin addD (cVar 12) (cC (.int 1))) cNil)) (cVar 1)) cNil)))) cNil)) cNil))))) cNil)) cNil))))
  (sSeq (sPar 5 6 (cCons (cBin modD (cApp intD (cCons (cBin ixD (cVar 0) (cC (.int 32))) cNil)) (cVar 1)) (cCons (cBin modD (cApp intD (cCons (cBin ixD (cVar 0) (cC (.int 33))) cNil)) (cC (.int 12))) cNil)))
  (sSeq (sPar 7 8 (cCons (cBin modD (cApp intD (cCons (cBin ixD (cVar 0) (cC (.int 34))) cNil)) (cVar 1)) (cCons (cIf (cTr (cVar 2)) (cC (.int 600)) (cBin modD (cApp intD (cCons (cBin ixD (cVar 0) (cC (.int 35))) cNil)) (cC (.int 30)))) cNil)))
  (sSeq (sPar3 9 10 11 (cCons (cBin modD (cApp intD (cCons (cBin subD (cVar 7) (cVar 5)) cNil)) (cVar 1)) (cCons (cVar 6) (cCons (cC (.bl true)) cNil))))
  (sSeq (sFor (cRng1 (cVar 9)) (gN 12) (sSeq (sAug 10 iaddD (cBin ixD (cVar 3) (cBin modD (cApp intD (cCons (cBin addD (cVar 5) (cVar 12)) cNil)) (cVar 1))))
  (sSet (gN 11) (cAndV (cVar 11) (cBin geD (cVar 10) (cC (.int 0)))))))
  (sSeq (sIf (cNot (cB (cApp (nD 6 f__law_comes) (cCons (cVar 4) (cCons (cVar 5) (cCons (cApp mkTup (cCons (cVar 6) cNil)) (cCons (cVar 7) (cCons (cVar 8) (cCons (cIf (cAnd (cTr (cVar 11)) (cB (cBin leD (cVar 9) (cVar 8)))) (cVar 9) (cC .non)) cNil))))))))) (sRet (cC (.bl false))) sNext)
  (sSeq (sPar3 13 10 14 (cCons (cBin addD (cVar 6) (cBin modD (cApp intD (cCons (cBin ixD (cVar 0) (cC (.int 36))) cNil)) (cIf (cTr (cVar 2)) (cC (.int 40)) (cC (.int 9))))) (cCons (cVar 6) (cCons (cC .non) cNil))))
  (sSeq (sFor (cRng1 (cBin addD (cVar 8) (cC (.int 1)))) (gN 12) (sSeq (sIf (cAnd (cB (cBin isND (cVar 14) (cC .non))) (cB (cBin geD (cVar 10) (cVar 13)))) (sSet (gN 14) (cVar 12)) sNext)
  (sSet (gN 10) (cIf (cB (cBin geD (cVar 10) (cC (.int 0)))) (cBin addD (cVar 10) (cBin ixD (cVar 3) (cBin modD (cApp intD (cCons (cBin addD (cVar 5) (cVar 12)) cNil)) (cVar 1)))) (cUn negD (cBin powD (cC (.int 10)) (cC (.int 9))))))))
  (sRet (cApp (nD 6 f__law_wants) (cCons (cVar 4) (cCons (cVar 5) (cCons (cApp mkTup (cCons (cVar 6) cNil)) (cCons (cApp mkTup (cCons (cVar 13) cNil)) (cCons (cVar 8) (cCons (cVar 14) cNil))))))))))))))))))
noncomputable def f__law_ring : DF := callF 15 c__law_ring
noncomputable def c__law_fewest : DS := (sSeq (sPar 6 7 (cCons (cApp mkLst (cCons (cApp mkTup (cCons (cVar 1) (cCons (cVar 2) cNil))) cNil)) (cCons (cDisp false (cVar 1) (cApp mkLst (cCons (cVar 2) cNil))) cNil)))
  (sSeq (sFor (cRng1 (cBin addD (cVar 5) (cC (.int 1)))) (gN 8) (sSeq (sFor (cItS (cVar 6)) (gT 2 (gsCons (gN 9) (gsCons (gN 10) gsNil))) (sIf (cAnd (cOr (cB (cBin isND (cVar 3) (cC .non))) (cB (cBin eqD (cVar 9) (cVar 3)))) (cB (cApp (nD 2 f__law_least) (cCons (cVar 10) (cCons (cVar 4) cNil))))) (sRet (cVar 8)) sNext))
  (sSeq (sSet (gN 11) (cApp mkBox cNil))
  (sSeq (sFor (cItS (cVar 6)) (gT 2 (gsCons (gN 9) (gsCons (gN 10) gsNil))) (sFor (cItS (cBin ixD (cBin ixD (cBin ixD (cVar 0) (cC (.int 1))) (cVar 9)) (cC (.int 1)))) (gT 3 (gsCons (gN 12) (gsCons (gN 13) (gsCons (gN 14) gsNil)))) (sSeq (sSet (gN 15) (cApp tupleD (cCons (cLC [17] false (cRng1 (cBin ixD (cVar 0) (cC (.int 0)))) (lt1 (gN 17) tYesD (cBin addD (cBin ixD (cVar 10) (cVar 17)) (cBin ixD (cVar 13) (cVar 17))))) cNil)))
  (sSeq (sSet (gN 16) (cApp dGet2D (cCons (cUn isDictD (cVar 7)) (cCons (cVar 14) (cCons (cApp mkLst cNil) cNil)))))
  (sIf (cAnd (cB (cBin geD (cApp min2D (cCons (cVar 15) cNil)) (cC (.int 0)))) (cB (cBin eqD (cApp lenD (cCons (cLC [18] false (cItS (cVar 16)) (lt1 (gN 18) (cB (cApp (nD 2 f__law_least) (cCons (cVar 18) (cCons (cVar 15) cNil)))) (cVar 18))) cNil)) (cC (.int 0))))) (sSeq (sDPutC (cVar 7) (cVar 14) (cBin addD (cLC [18] false (cItS (cVar 16)) (lt1 (gN 18) (cNot (cB (cApp (nD 2 f__law_least) (cCons (cVar 15) (cCons (cVar 18) cNil))))) (cVar 18))) (cApp mkLst (cCons (cVar 15) cNil))))
  (sExpr (cM apnd (cVar 11) (cCons (cApp mkTup (cCons (cVar 14) (cCons (cVar 15) cNil))) cNil)))) sNext)))))
  (sSeq (sSet (gN 6) (cFrz (cVar 11)))
  (sIf (cB (cBin eqD (cApp lenD (cCons (cVar 6) cNil)) (cC (.int 0)))) sBreak sNext))))))
  (sRet (cC .non))))
noncomputable def f__law_fewest : DF := callF 19 c__law_fewest
noncomputable def c__law_book : DS := (sSeq (sSet (gN 3) (cApp mkBox cNil))
  (sSeq (sFor (cRng1 (cVar 2)) (gN 4) (sSeq (sSet (gN 5) (cApp mkBox cNil))
  (sSeq (sFor (cRng1 (cBin modD (cApp intD (cCons (cBin ixD (cVar 0) (cBin mulD (cC (.int 8)) (cVar 4))) cNil)) (cC (.int 4)))) (gN 6) (sSeq (sSet (gN 7) (cApp tupleD (cCons (cLC [9] false (cRng1 (cVar 1)) (lt1 (gN 9) tYesD (cBin subD (cBin modD (cApp intD (cCons (cBin ixD (cVar 0) (cBin addD (cBin addD (cBin addD (cC (.int 40)) (cBin mulD (cC (.int 12)) (cVar 4))) (cBin mulD (cC (.int 4)) (cVar 6))) (cVar 9))) cNil)) (cC (.int 7))) (cC (.int 3))))) cNil)))
  (sSeq (sSet (gN 8) (cBin addD (cBin ixD (cApp mkLst (cCons (cC (.str "u")) (cCons (cC (.str "v")) (cCons (cC (.str "w")) cNil)))) (cVar 6)) (cApp strD (cCons (cBin modD (cApp intD (cCons (cBin ixD (cVar 0) (cBin addD (cBin mulD (cC (.int 8)) (cVar 4)) (cC (.int 1)))) cNil)) (cC (.int 10))) cNil))))
  (sExpr (cM apnd (cVar 5) (cCons (cApp mkTup (cCons (cVar 8) (cCons (cVar 7) (cCons (cBin modD (cApp intD (cCons (cBin ixD (cVar 0) (cBin addD (cBin addD (cBin mulD (cC (.int 8)) (cVar 4)) (cC (.int 2))) (cVar 6))) cNil)) (cVar 2)) cNil)))) cNil))))))
  (sExpr (cM apnd (cVar 3) (cCons (cApp mkTup (cCons (cBin ixD (cApp mkLst (cCons (cC (.str "house")) (cCons (cC (.str "outside")) cNil))) (cBin modD (cApp intD (cCons (cBin ixD (cVar 0) (cBin addD (cBin mulD (cC (.int 8)) (cVar 4)) (cC (.int 6)))) cNil)) (cC (.int 2)))) (cCons (cApp tupleD (cCons (cVar 5) cNil)) cNil))) cNil))))))
  (sRet (cApp mkTup (cCons (cVar 1) (cCons (cApp tupleD (cCons (cVar 3) cNil)) cNil))))))
noncomputable def f__law_book : DF := callF 10 c__law_book
noncomputable def c__law_drawn : DS := (sSeq (sPar 1 2 (cCons (cBin addD (cC (.int 1)) (cBin modD (cApp intD (cCons (cBin ixD (cVar 0) (cC (.int 0))) cNil)) (cC (.int 2)))) (cCons (cBin addD (cC (.int 1)) (cBin modD (cApp intD (cCons (cBin ixD (cVar 0) (cC (.int 1))) cNil)) (cC (.int 4)))) cNil)))
  (sSeq (sPar 3 4 (cCons (cApp (nD 3 f__law_book) (cCons (cSl false (cVar 0) (oSome (cC (.int 20))) oNo) (cCons (cVar 1) (cCons (cVar 2) cNil)))) (cCons (cBin modD (cApp intD (cCons (cBin ixD (cVar 0) (cC (.int 2))) cNil)) (cVar 2)) cNil)))
  (sSeq (sSet (gN 5) (cApp tupleD (cCons (cLC [10] false (cRng1 (cVar 1)) (lt1 (gN 10) tYesD (cBin modD (cApp intD (cCons (cBin ixD (cVar 0) (cBin addD (cC (.int 3)) (cVar 10))) cNil)) (cC (.int 4))))) cNil)))
  (sSeq (sSet (gN 6) (cApp tupleD (cCons (cLC [10] false (cRng1 (cVar 1)) (lt1 (gN 10) tYesD (cBin modD (cApp intD (cCons (cBin ixD (cVar 0) (cBin addD (cC (.int 6)) (cVar 10))) cNil)) (cC (.int 7))))) cNil)))
  (sSeq (sPar 7 8 (cCons (cBin modD (cApp intD (cCons (cBin ixD (cVar 0) (cC (.int 9))) cNil)) (cVar 2)) (cCons (cBin modD (cApp intD (cCons (cBin ixD (cVar 0) (cC (.int 10))) cNil)) (cC (.int 8))) cNil)))
  (sSeq (sSet (gN 9) (cBin repD (cApp mkTup (cCons (cC (.int 0)) cNil)) (cVar 1)))
  (sSeq (sIf (cNot (cB (cApp (nD 6 f__law_comes) (cCons (cVar 3) (cCons (cVar 4) (cCons (cVar 5) (cCons (cVar 7) (cCons (cVar 8) (cCons (cApp (nD 6 f__law_fewest) (cCons (cVar 3) (cCons (cVar 4) (cCons (cVar 5) (cCons (cVar 7) (cCons (cVar 9) (cCons (cVar 8) cNil))))))) cNil))))))))) (sRet (cC (.bl false))) sNext)
  (sRet (cApp (nD 6 f__law_wants) (cCons (cVar 3) (cCons (cVar 4) (cCons (cVar 5) (cCons (cVar 6) (cCons (cVar 8) (cCons (cApp (nD 6 f__law_fewest) (cCons (cVar 3) (cCons (cVar 4) (cCons (cVar 5) (cCons (cC .non) (cCons (cVar 6) (cCons (cVar 8) cNil))))))) cNil)))))))))))))))
noncomputable def f__law_drawn : DF := callF 11 c__law_drawn
noncomputable def c__law_draws : DS := (sSeq (sSet (gN 2) (cLC [7] false (cItS (cSl false (cVar 0) oNo (oSome (cC (.int 60))))) (lt1 (gN 7) tYesD (cApp intD (cCons (cVar 7) cNil)))))
  (sSeq (sSet (gN 3) (cC (.int 4007)))
  (sSeq (sFor (cRng1 (cApp lenD (cCons (cVar 2) cNil))) (gN 4) (sSet (gN 3) (cBin modD (cApp intD (cCons (cBin addD (cBin addD (cBin addD (cBin mulD (cVar 3) (cC (.int 71089))) (cBin modD (cApp absD (cCons (cBin ixD (cVar 2) (cVar 4)) cNil)) (cC (.int 13997)))) (cBin mulD (cC (.int 17)) (cVar 4))) (cC (.int 79))) cNil)) (cC (.int 2147483543)))))
  (sSeq (sSet (gN 5) (cLC [7] true (cItS (cVar 2)) (lt1 (gN 7) (cB (cBin geD (cApp absD (cCons (cVar 7) cNil)) (cBin powD (cC (.int 10)) (cC (.int 15))))) (cApp absD (cCons (cVar 7) cNil)))))
  (sSeq (sSet (gN 6) (cApp mkBox cNil))
  (sSeq (sFor (cRng1 (cVar 1)) (gN 4) (sIf (cB (cBin gtD (cApp lenD (cCons (cVar 5) cNil)) (cC (.int 0)))) (sSeq (sExpr (cM apnd (cVar 6) (cCons (cBin modD (cApp intD (cCons (cBin ixD (cVar 5) (cC (.int 0))) cNil)) (cC (.int 1013))) cNil)))
  (sSeq (sSetIx (cVar 5) (cC (.int 0)) (cBin fdivD (cBin ixD (cVar 5) (cC (.int 0))) (cC (.int 1013))))
  (sIf (cB (cBin eqD (cBin ixD (cVar 5) (cC (.int 0))) (cC (.int 0)))) (sSet (gN 5) (cSl true (cVar 5) (oSome (cC (.int 1))) oNo)) sNext))) (sSeq (sSet (gN 3) (cBin modD (cApp intD (cCons (cBin addD (cBin mulD (cVar 3) (cC (.int 39373))) (cC (.int 797))) cNil)) (cC (.int 2147483543))))
  (sExpr (cM apnd (cVar 6) (cCons (cBin fdivD (cVar 3) (cC (.int 179))) cNil))))))
  (sRet (cFrz (cVar 6)))))))))
noncomputable def f__law_draws : DF := callF 8 c__law_draws
noncomputable def c_law : DS := (sSeq (sSet (gN 1) (cApp (nD 2 f__law_draws) (cCons (cVar 0) (cCons (cC (.int 420)) cNil))))
  (sSeq (sSet (gN 2) (cBin eqD (cBin modD (cApp intD (cCons (cBin ixD (cVar 1) (cC (.int 0))) cNil)) (cC (.int 13))) (cC (.int 9))))
  (sSeq (sIf (cOr (cNot (cB (cApp (nD 1 f__law_drawn) (cCons (cSl false (cVar 1) (oSome (cC (.int 10))) oNo) cNil)))) (cOr (cNot (cB (cApp (nD 1 f__law_drawn) (cCons (cSl false (cVar 1) (oSome (cC (.int 120))) oNo) cNil)))) (cNot (cB (cApp (nD 2 f__law_pumps) (cCons (cSl false (cVar 1) (oSome (cC (.int 230))) oNo) (cCons (cC (.bl false)) cNil))))))) (sRet (cC (.bl false))) sNext)
  (sSeq (sIf (cNot (cB (cApp (nD 3 f__law_ring) (cCons (cSl false (cVar 1) (oSome (cC (.int 250))) oNo) (cCons (cBin addD (cC (.int 1)) (cBin modD (cApp intD (cCons (cBin ixD (cVar 1) (cC (.int 1))) cNil)) (cC (.int 8)))) (cCons (cC (.bl false)) cNil)))))) (sRet (cC (.bl false))) sNext)
  (sRet (cOrV (cNotV (cVar 2)) (cAndV (cApp (nD 2 f__law_pumps) (cCons (cSl false (cVar 1) (oSome (cC (.int 300))) oNo) (cCons (cC (.bl true)) cNil))) (cApp (nD 3 f__law_ring) (cCons (cSl false (cVar 1) (oSome (cC (.int 320))) oNo) (cCons (cC (.int 24)) (cCons (cC (.bl true)) cNil)))))))))))
noncomputable def f_law : DF := callF 3 c_law
end K88

/-! k88, the plain half: the program's small defs. -/
namespace K88
open PySem PySem.Spec PyProof.Rows L2 DL

abbrev Lv := List Int
structure Mv where
  w : Str
  p : Lv
  to : Nat
structure Bk where
  T : Nat
  sts : List (Str × List Mv)
abbrev Place := Nat × Lv
def eL (l : Lv) : D := .tup (l.map .int)
def eM (m : Mv) : D := .tup [.str m.w, eL m.p, .int m.to]
def eS (s : Str × List Mv) : D := .tup [.str s.1, .tup (s.2.map eM)]
def eB (b : Bk) : D := .tup [.int b.T, .tup (b.sts.map eS)]
def eP (p : Place) : D := .tup [.int p.1, eL p.2]
def mvs (b : Bk) (s : Nat) : List Mv := match b.sts[s]? with
  | some x => x.2
  | none => []
def add (l p : Lv) : Lv := List.zipWith (· + ·) l p
/-- a book in order, its levels and moves are short -/
structure WB (b : Bk) : Prop where
  t1 : 1 ≤ b.T
  t2 : b.T ≤ 100
  n : b.sts.length ≤ 1000
  m : ∀ s ∈ b.sts, s.2.length ≤ 1000
  p : ∀ s ∈ b.sts, ∀ m ∈ s.2, m.p.length = b.T
  to : ∀ s ∈ b.sts, ∀ m ∈ s.2, m.to < b.sts.length
theorem small {n : Nat} (h : n ≤ 100000) : n ≤ sizeLine := by rw [sizeLine_eq]; omega
theorem below_eL (l : Lv) : below 0 (eL l) = true := belows_map fun _ _ => rfl
theorem below_eP (p : Place) : below 0 (eP p) = true := by
  simp only [eP, below, belows, below_eL, Bool.and_self]
theorem below_eM (m : Mv) : below 0 (eM m) = true := by
  simp only [eM, below, belows, below_eL, Bool.and_self]
theorem below_mvs (ms : List Mv) : below 0 (.tup (ms.map eM)) = true := belows_map fun _ _ => below_eM _
theorem mvs_at {b : Bk} {s : Nat} (h : s < b.sts.length) : ∃ x, b.sts[s]? = some x ∧ mvs b s = x.2 := by
  refine ⟨b.sts[s], by simp [h], ?_⟩
  simp [mvs, h]
theorem mvs_mem {b : Bk} {s : Nat} {m : Mv} (h : m ∈ mvs b s) : ∃ x ∈ b.sts, m ∈ x.2 := by
  unfold mvs at h
  split at h
  · rename_i x hx
    exact ⟨x, List.mem_of_getElem? hx, h⟩
  · simp at h
theorem WB.ml {b : Bk} (W : WB b) (s : Nat) : (mvs b s).length ≤ 1000 := by
  unfold mvs
  split
  · rename_i x hx
    exact W.m x (List.mem_of_getElem? hx)
  · simp
theorem WB.mp {b : Bk} (W : WB b) {s : Nat} {m : Mv} (h : m ∈ mvs b s) : m.p.length = b.T := let ⟨x, h1, h2⟩ := mvs_mem h; W.p x h1 m h2
theorem WB.mt {b : Bk} (W : WB b) {s : Nat} {m : Mv} (h : m ∈ mvs b s) : m.to < b.sts.length := let ⟨x, h1, h2⟩ := mvs_mem h; W.to x h1 m h2

theorem moves_ok {b : Bk} {s : Nat} {S : Store} (h : s < b.sts.length) : f_moves_of [eB b, .int s] S = some (.tup ((mvs b s).map eM), S) := by
  obtain ⟨x, hx, hm⟩ := mvs_at h
  refine call_rt0 ?_ (below_mvs _)
  have h1 : L2.atI (b.sts.map eS) (s : Int) = some (eS x) := atI_nat (by rw [List.getElem?_map, hx]; rfl)
  have h2 : L2.atI [D.int b.T, D.tup (b.sts.map eS)] 1 = some (D.tup (b.sts.map eS)) := rfl
  have h3 : L2.atI [D.str x.1, D.tup (x.2.map eM)] 1 = some (D.tup (x.2.map eM)) := rfl
  simp [c_moves_of, sRet, cBin, cVar, cC, eB, ixD, h1, h2, h3, eS, hm]
theorem zip_int : ∀ (a b : Lv), ((a.map D.int).zip (b.map D.int)).map (fun p => D.tup [p.1, p.2]) = (a.zip b).map fun p => D.tup [.int p.1, .int p.2]
  | [], _ => rfl
  | _ :: _, [] => rfl
  | x :: a, y :: b => by simp [zip_int a b]
theorem zipWith_eq {α β : Type} (f : Int → Int → β) : ∀ (a b : Lv), (a.zip b).map (fun p => f p.1 p.2) = List.zipWith f a b
  | [], _ => rfl
  | _ :: _, [] => rfl
  | x :: a, y :: b => by simp [zipWith_eq (α := α) f a b]
theorem poured_ok {l p : Lv} {S : Store} (h : l.length ≤ 100000) : f_poured [eL l, eL p] S = some (eL (add l p), S) := by
  refine call_rt0 ?_ (below_eL _)
  have hc := cLC_map (S := S) (ρ := [some (eL l), some (eL p), none, none]) (vs := [2, 3]) (ci := cZip (cVar 0) (cVar 1)) (g := gT 2 (gsCons (gN 2) (gsCons (gN 3) gsNil))) (e := cBin addD (cVar 2) (cVar 3))
    (l := l.zip p) (fun q => D.tup [.int q.1, .int q.2]) (fun q => .int (q.1 + q.2)) (xs := (l.zip p).map fun q => D.tup [.int q.1, .int q.2])
    (by simp [cZip, cVar, eL, itZip, zip_int]) rfl (small (by rw [List.length_zip]; omega))
    (fun q hq => ⟨_, by simp [gT, gsCons, gN, gsNil, wipeD]; rfl, by simp [cBin, cVar, addD]⟩)
  simp only [c_poured, sRet, cApp, cCons, cNil, List.map_cons, List.map_nil, List.length_cons, List.length_nil, List.replicate, Nat.reduceSub, List.cons_append, List.nil_append, Nat.reduceAdd, Nat.zero_add]
  rw [hc]
  have e : (l.zip p).map (fun q => D.int (q.1 + q.2)) = (add l p).map D.int := by
    unfold add
    rw [← zipWith_eq (α := Int), List.map_map]
    rfl
  simp [tupleD, asQ, asL, e, eL]
end K88

namespace K88
open PySem PySem.Spec PyProof.Rows L2 DL

def dry (l : Lv) : Bool := l.any fun x => decide (x < 0)
def geB (a b : Lv) : Bool := (a.zip b).all fun q => decide (q.2 ≤ q.1)
theorem dry_ok {l : Lv} {S : Store} (h : l.length ≤ 100000) : f_is_dry [eL l] S = some (.bl (dry l), S) := by
  refine call_rt0 ?_ rfl
  have hc := cLC_map (S := S) (ρ := [some (eL l), none]) (vs := [1]) (ci := cItS (cVar 0)) (g := gN 1) (e := cBin ltD (cVar 1) (cC (.int 0)))
    (l := l) D.int (fun x => .bl (decide (x < 0))) (xs := l.map D.int)
    (by simp [cItS, cVar, eL, itSeq]) rfl (small h) (fun q hq => ⟨_, rfl, by simp [cBin, cVar, cC, wipeD, cmpD]⟩)
  simp only [c_is_dry, sRet, cApp, cCons, cNil, List.map_cons, List.map_nil, List.length_cons, List.length_nil, List.replicate, Nat.reduceSub, List.cons_append, List.nil_append, Nat.reduceAdd, Nat.zero_add]
  rw [hc]
  simp [anyD, asQ, asL, asBls_map, dry, List.any_map, Function.comp_def]
theorem atLeast_ok {l p : Lv} {S : Store} (h : l.length ≤ 100000) : f_at_least [eL l, eL p] S = some (.bl (geB l p), S) := by
  refine call_rt0 ?_ rfl
  have hc := cLC_map (S := S) (ρ := [some (eL l), some (eL p), none, none]) (vs := [2, 3]) (ci := cZip (cVar 0) (cVar 1)) (g := gT 2 (gsCons (gN 2) (gsCons (gN 3) gsNil))) (e := cBin geD (cVar 2) (cVar 3))
    (l := l.zip p) (fun q => D.tup [.int q.1, .int q.2]) (fun q => .bl (decide (q.2 ≤ q.1))) (xs := (l.zip p).map fun q => D.tup [.int q.1, .int q.2])
    (by simp [cZip, cVar, eL, itZip, zip_int]) rfl (small (by rw [List.length_zip]; omega))
    (fun q hq => ⟨_, by simp [gT, gsCons, gN, gsNil, wipeD]; rfl, by simp [cBin, cVar, cmpD]⟩)
  simp only [c_at_least, sRet, cApp, cCons, cNil, List.map_cons, List.map_nil, List.length_cons, List.length_nil, List.replicate, Nat.reduceSub, List.cons_append, List.nil_append, Nat.reduceAdd, Nat.zero_add]
  rw [hc]
  simp [allD, asQ, asL, asBls_map, geB, List.all_map, Function.comp_def]
theorem lesser_ok {l p : Lv} {S : Store} (h : l.length ≤ 100000) : f_lesser_of [eL l, eL p] S = some (eL (List.zipWith min l p), S) := by
  refine call_rt0 ?_ (below_eL _)
  have hc := cLC_map (S := S) (ρ := [some (eL l), some (eL p), none, none]) (vs := [2, 3]) (ci := cZip (cVar 0) (cVar 1)) (g := gT 2 (gsCons (gN 2) (gsCons (gN 3) gsNil))) (e := cApp min2D (cCons (cVar 2) (cCons (cVar 3) cNil)))
    (l := l.zip p) (fun q => D.tup [.int q.1, .int q.2]) (fun q => .int (min q.1 q.2)) (xs := (l.zip p).map fun q => D.tup [.int q.1, .int q.2])
    (by simp [cZip, cVar, eL, itZip, zip_int]) rfl (small (by rw [List.length_zip]; omega))
    (fun q hq => ⟨_, by simp [gT, gsCons, gN, gsNil, wipeD]; rfl, by simp [cApp, cCons, cNil, cVar, min2D]⟩)
  simp only [c_lesser_of, sRet, cApp, cCons, cNil, List.map_cons, List.map_nil, List.length_cons, List.length_nil, List.replicate, Nat.reduceSub, List.cons_append, List.nil_append, Nat.reduceAdd, Nat.zero_add]
  rw [hc]
  have e : (l.zip p).map (fun q => D.int (min q.1 q.2)) = (List.zipWith min l p).map D.int := by
    rw [← zipWith_eq (α := Int), List.map_map]
    rfl
  simp [tupleD, asQ, asL, e, eL]
theorem pow62 : (1000000 : Int) < 2 ^ 62 := by decide +kernel
theorem npow62 : -(2 ^ 62) ≤ (0 : Int) := by decide +kernel
theorem rng1 {c : DE} {ρ : Env'} {S : Store} {n : Nat} (h : c ρ S = some (.int n, S)) (hn : n ≤ 1000000) : cRng1 c ρ S = some (((List.range n).map (fun i => D.int (i : Nat)), none), S) := by
  unfold cRng1
  rw [h]
  have h1 : (0 : Int) ≤ (n : Int) := Int.natCast_nonneg n
  have h2 : (n : Int) ≤ 1000000 := by omega
  simp only
  rw [if_pos (show inR1 (n : Int) from ⟨Int.le_trans npow62 h1, Int.lt_of_le_of_lt h2 pow62⟩)]
  show some (itRange 0 n, S) = _
  unfold itRange
  simp only [Int.zero_add]
theorem k_ii : kitB "int" "int" = some true := by decide +kernel
theorem k_ib : kitB "int" "bool" = some false := by decide +kernel
theorem k_tt : kitB "tuple" "tuple" = some true := by decide +kernel
theorem k_it : kitB "int" "tuple" = some false := by decide +kernel
theorem noughts_ok {n : Nat} {S : Store} (h : n ≤ 100000) : f_noughts [.int n] S = some (eL (List.replicate n 0), S) := by
  refine call_rt0 ?_ (below_eL _)
  have hc := cLC_map (S := S) (ρ := [some (D.int n), none]) (vs := [1]) (ci := cRng1 (cVar 0)) (g := gN 1) (e := cC (.int 0))
    (l := List.range n) (fun i => D.int (i : Nat)) (fun _ => .int 0) (rng1 (by simp [cVar]) (by omega)) rfl (small (by simpa using h)) (fun q hq => ⟨_, rfl, by simp [cC]⟩)
  simp only [c_noughts, sRet, cApp, cCons, cNil, List.map_cons, List.map_nil, List.length_cons, List.length_nil, List.replicate, Nat.reduceSub, List.cons_append, List.nil_append, Nat.reduceAdd, Nat.zero_add]
  rw [hc]
  have e : (List.range n).map (fun _ => D.int 0) = (List.replicate n (0 : Int)).map D.int := by
    rw [List.map_replicate, List.map_const', List.length_range]
  simp only [e]
  simp [tupleD, asQ, asL, eL]
theorem whole_ok {i : Int} {S : Store} : f__law_whole [.int i] S = some (.bl true, S) := by
  refine call_rt0 ?_ rfl
  simp [c__law_whole, sRet, cAndV, cUn, cNotV, cVar, isiD, tyD, k_ii, k_ib]
theorem isInt_ok {i : Int} {S : Store} : f_is_integer [.int i] S = some (.bl true, S) := by
  refine call_rt0 ?_ rfl
  simp [c_is_integer, sRet, cAndV, cUn, cNotV, cVar, isiD, tyD, k_ii, k_ib]
end K88

namespace K88
open PySem PySem.Spec PyProof.Rows L2 DL

inductive Wk (b : Bk) : Nat → List Nat → List Mv → Nat → Prop
  | nil (s : Nat) : Wk b s [] [] s
  | cons {s n : Nat} {m : Mv} {ns : List Nat} {ms : List Mv} {s' : Nat} : (mvs b s)[n]? = some m → Wk b m.to ns ms s' → Wk b s (n :: ns) (m :: ms) s'
def crs : Lv → List Mv → List Lv
  | _, [] => []
  | l, m :: ms => add l m.p :: crs (add l m.p) ms
def fin : Lv → List Mv → Lv
  | l, [] => l
  | l, m :: ms => fin (add l m.p) ms
theorem st_lt {b : Bk} {s n : Nat} {m : Mv} (h : (mvs b s)[n]? = some m) : s < b.sts.length := by
  unfold mvs at h
  split at h
  · rename_i x hx
    exact (List.getElem?_eq_some_iff.mp hx).1
  · simp at h
theorem set_end {α : Type} {S : List α} {c d : α} : (S ++ [c]).set S.length d = S ++ [d] := by simp
theorem add_len {l p : Lv} (h : p.length = l.length) : (add l p).length = l.length := by simp [add, h]
theorem Wk.len {b : Bk} {s : Nat} {ns : List Nat} {ms : List Mv} {s' : Nat} (h : Wk b s ns ms s') : ms.length = ns.length := by
  induction h with
  | nil => rfl
  | cons _ _ ih => simp [ih]
theorem Wk.pl {b : Bk} (W : WB b) {s : Nat} {ns : List Nat} {ms : List Mv} {s' : Nat} (h : Wk b s ns ms s') : ∀ m ∈ ms, m.p.length = b.T := by
  induction h with
  | nil => simp
  | cons e _ ih =>
    intro x hx
    rcases List.mem_cons.mp hx with rfl | hx
    · exact W.mp (List.mem_of_getElem? e)
    · exact ih x hx
theorem crs_len : ∀ (l : Lv) (ms : List Mv), (crs l ms).length = ms.length
  | _, [] => rfl
  | l, m :: ms => by simp [crs, crs_len (add l m.p) ms]
theorem crs_lens {T : Nat} : ∀ {l : Lv} {ms : List Mv}, l.length = T → (∀ m ∈ ms, m.p.length = T) → ∀ x ∈ crs l ms, x.length = T
  | _, [], _, _ => by simp [crs]
  | l, m :: ms, hl, h => by
    intro x hx
    have h1 : (add l m.p).length = T := by rw [add_len (by rw [h m (by simp), hl]), hl]
    rcases List.mem_cons.mp hx with rfl | hx
    · exact h1
    · exact crs_lens h1 (fun y hy => h y (by simp [hy])) x hx
theorem fin_last : ∀ (l : Lv) (ms : List Mv), ∃ pre, l :: crs l ms = pre ++ [fin l ms]
  | l, [] => ⟨[], rfl⟩
  | l, m :: ms => by
    obtain ⟨pre, h⟩ := fin_last (add l m.p) ms
    exact ⟨l :: pre, by simp only [crs, fin, h, List.cons_append]⟩
theorem fin_len {T : Nat} : ∀ {l : Lv} {ms : List Mv}, l.length = T → (∀ m ∈ ms, m.p.length = T) → (fin l ms).length = T
  | _, [], hl, _ => hl
  | l, m :: ms, hl, h => fin_len (l := add l m.p) (by rw [add_len (by rw [h m (by simp), hl]), hl]) fun y hy => h y (by simp [hy])
def eN (ns : List Nat) : D := .tup (ns.map fun n => .int (n : Nat))
theorem below_eN (ns : List Nat) : below 0 (eN ns) = true := belows_map fun _ _ => rfl
theorem below_Ls (ls : List Lv) : below 0 (.tup (ls.map eL)) = true := belows_map fun _ _ => below_eL _
theorem course_ok {b : Bk} (W : WB b) {s : Nat} {l : Lv} {ns : List Nat} {ms : List Mv} {s' : Nat} {S : Store} (hl : l.length = b.T) (h : Wk b s ns ms s') (hn : ns.length ≤ 1000) : f_level_course [eB b, .int s, eL l, eN ns] S = some (.tup ((l :: crs l ms).map eL), S) := by
  have hT := W.t2
  have key := forL_inv (g := gN 6) (b := sSeq (sSet (gT 3 (gsCons (gN 7) (gsCons (gN 8) (gsCons (gN 9) gsNil)))) (cBin ixD (cApp (nD 2 f_moves_of) (cCons (cVar 0) (cCons (cVar 4) cNil))) (cVar 6)))
      (sSeq (sExpr (cM apnd (cVar 5) (cCons (cApp (nD 2 f_poured) (cCons (cBin ixD (cVar 5) (cUn negD (cC (.int 1)))) (cCons (cVar 8) cNil))) cNil))) (sSet (gN 4) (cVar 9)))) (xs := ns.map fun n => D.int (n : Nat)) (fun n : Nat => D.int n)
    (fun ns' ρ S' => ∃ s0 l0 pre ms' x6 x7 x8 x9, ρ = [some (eB b), some (.int s), some (eL l), some (eN ns), some (.int (s0 : Nat)), some (.ref S.length), x6, x7, x8, x9] ∧ S' = S ++ [.lst ((pre ++ [l0]).map eL)] ∧ Wk b s0 ns' ms' s' ∧ pre ++ l0 :: crs l0 ms' = l :: crs l ms ∧ l0.length = b.T)
    (fun n ns' ρ S' ⟨s0, l0, pre, ms', x6, x7, x8, x9, eρ, eS, hw, hc, hl0⟩ => by
      subst eρ eS
      cases hw with
      | @cons _ _ m _ ms2 _ hm hw =>
        refine ⟨_, rfl, _, _, ?_, m.to, add l0 m.p, pre ++ [l0], ms2, some (.int n), some (.str m.w), some (eL m.p), some (.int m.to), rfl, rfl, hw, ?_, ?_⟩
        · have h1 : L2.atI ((mvs b s0).map eM) (n : Int) = some (eM m) := atI_nat (by rw [List.getElem?_map, hm]; rfl)
          have h2 : L2.atI (pre.map eL ++ [eL l0]) (-1) = some (eL l0) := atI_last _ _
          have hpre : (pre ++ [l0]).length ≤ 1001 := by
            have e := congrArg List.length hc
            simp [crs_len, h.len] at e
            simp
            omega
          have h3 : pre.length + 1 < sizeLine := by
            rw [sizeLine_eq]
            simp at hpre
            omega
          simp [sSeq, sSet, sRet, sExpr, sIf, gN, gT, gsCons, gsNil, cVar, cC, cBin, cUn, cNil, cCons, cApp, cB, cTr, cAnd, cOr, cNot, cV, cAndV, cOrV, cNotV, cIf, nD, mkTup, mkLst, mkBox, asQ, asL, negD, addD, subD, cmpD, isND, notND, eqD, neD, eqS, lenD, tupleD, DL.intD, cM, apnd, popM, sPar, sPar3, sNext, sAug, ipD, ixD, moves_ok (st_lt hm), poured_ok (l := l0) (by omega), h1, h2, h3, eM]
        · rw [← hc]; simp [crs]
        · rw [add_len, hl0]
          rw [W.mp (List.mem_of_getElem? hm), hl0])
    ns [some (eB b), some (.int s), some (eL l), some (eN ns), some (.int s), some (.ref S.length), none, none, none, none] (S ++ [.lst [eL l]]) ⟨s, l, [], ms, none, none, none, none, rfl, rfl, h, rfl, hl⟩
  obtain ⟨ρ', S', e1, s0, l0, pre, ms', x6, x7, x8, x9, eρ, eS, hw, hc, hl0⟩ := key
  cases hw
  simp only [crs] at hc
  subst eρ eS
  refine call_rt (T := [.lst ((pre ++ [l0]).map eL)]) ?_ (below_Ls _)
  rw [← hc]
  have z : (1 : Nat) ≤ sizeLine := by rw [sizeLine_eq]; omega
  unfold c_level_course
  simp only [sSeq, sSet, sFor, cVar, gN, cItS, cApp, cCons, cNil, mkBox, List.map_cons, List.map_nil, List.length_cons, List.length_nil, List.replicate, Nat.reduceSub, List.cons_append, List.nil_append, Nat.reduceAdd, Nat.zero_add, List.getElem?_cons_zero, List.getElem?_cons_succ, List.set_cons_zero, List.set_cons_succ, z, if_true]
  simp only [eN, itSeq, Option.map_some]
  simp only [sSeq, sSet, gN, cApp, cCons, cNil, eN] at e1
  rw [e1]
  simp [sRet, cApp, cCons, cNil, cVar, tupleD, asQ, asL]
end K88

namespace K88
open PySem PySem.Spec PyProof.Rows L2 DL

theorem ix_tup {xs : List D} {i : Int} {S : Store} : ixD (.tup xs) (.int i) S = (L2.atI xs i).map fun d => (d, S) := rfl
theorem ix_lst {xs : List D} {i : Int} {S : Store} : ixD (.lst xs) (.int i) S = (L2.atI xs i).map fun d => (d, S) := rfl
theorem ixB0 {b : Bk} {S : Store} : ixD (eB b) (.int 0) S = some (.int b.T, S) := rfl
theorem ixB1 {b : Bk} {S : Store} : ixD (eB b) (.int 1) S = some (.tup (b.sts.map eS), S) := rfl
theorem ixM1 {m : Mv} {S : Store} : ixD (eM m) (.int 1) S = some (eL m.p, S) := rfl
theorem ixM2 {m : Mv} {S : Store} : ixD (eM m) (.int 2) S = some (.int m.to, S) := rfl
theorem ixP0 {p : Place} {S : Store} : ixD (eP p) (.int 0) S = some (.int p.1, S) := rfl
theorem ixP1 {p : Place} {S : Store} : ixD (eP p) (.int 1) S = some (eL p.2, S) := rfl
theorem ixS1 {s : Str × List Mv} {S : Store} : ixD (eS s) (.int 1) S = some (.tup (s.2.map eM), S) := rfl
theorem ixSt {b : Bk} {s : Nat} (h : s < b.sts.length) : ∃ x, (∀ S : Store, ixD (.tup (b.sts.map eS)) (.int s) S = some (eS x, S)) ∧ mvs b s = x.2 := by
  obtain ⟨x, hx, hm⟩ := mvs_at h
  refine ⟨x, fun S => ?_, hm⟩
  rw [ix_tup, atI_nat (v := eS x) (by rw [List.getElem?_map, hx]; rfl)]
  rfl
theorem ixMs {ms : List Mv} {n : Nat} {m : Mv} (h : ms[n]? = some m) {S : Store} : ixD (.tup (ms.map eM)) (.int n) S = some (eM m, S) := by
  rw [ix_tup, atI_nat (v := eM m) (by rw [List.getElem?_map, h]; rfl)]
  rfl
abbrev zs (b : Bk) : Lv := List.replicate b.T 0
theorem pourSum_ok {b : Bk} (W : WB b) {s : Nat} {ns : List Nat} {ms : List Mv} {s' : Nat} {S : Store} (h : Wk b s ns ms s') (hn : ns.length ≤ 1000) : f_pour_sum [eB b, .int s, eN ns] S = some (eL (fin (zs b) ms), S) := by
  have hT := W.t2
  refine call_rt0 ?_ (below_eL _)
  obtain ⟨pre, hp⟩ := fin_last (zs b) ms
  have h2 : L2.atI ((zs b :: crs (zs b) ms).map eL) (-1) = some (eL (fin (zs b) ms)) := by
    rw [hp, List.map_append]
    exact atI_last _ _
  simp [c_pour_sum, sSeq, sSet, sRet, sExpr, sIf, gN, gT, gsCons, gsNil, cVar, cC, cBin, cUn, cNil, cCons, cApp, cB, cTr, cAnd, cOr, cNot, cV, cAndV, cOrV, cNotV, cIf, nD, mkTup, mkLst, mkBox, asQ, asL, negD, addD, subD, cmpD, isND, notND, eqD, neD, eqS, lenD, tupleD, DL.intD, cM, apnd, popM, sPar, sPar3, sNext, sAug, ipD, ixB0, noughts_ok (n := b.T) (by omega), course_ok W (l := zs b) (by simp) h hn, ix_tup] at h2 ⊢
  simp [h2]
theorem lows_len {T : Nat} : ∀ {cs : List Lv} {z : Lv}, z.length = T → (∀ x ∈ cs, x.length = T) → (cs.foldl (List.zipWith min) z).length = T
  | [], _, h, _ => h
  | c :: cs, z, h, hc => lows_len (cs := cs) (z := List.zipWith min z c) (by simp [h, hc c (by simp)]) fun x hx => hc x (by simp [hx])
def needs (b : Bk) (ms : List Mv) : Lv := ((zs b :: crs (zs b) ms).foldl (List.zipWith min) (zs b)).map fun x => -x
theorem needed_ok {b : Bk} (W : WB b) {s : Nat} {ns : List Nat} {ms : List Mv} {s' : Nat} {S : Store} (h : Wk b s ns ms s') (hn : ns.length ≤ 1000) : f_needed_levels [eB b, .int s, eN ns] S = some (eL (needs b ms), S) := by
  have hT := W.t2
  have hz : (zs b).length = b.T := by simp
  have hcs : ∀ x ∈ zs b :: crs (zs b) ms, x.length = b.T := fun x hx => by
    rcases List.mem_cons.mp hx with rfl | hx
    · exact hz
    · exact crs_lens hz (h.pl W) x hx
  refine call_ev ?_ (below_eL _)
  unfold c_needed_levels
  refine Ev.seq (Ev.setN (d := eL (zs b)) (S' := S) (by simp [sSeq, sSet, sRet, sExpr, sIf, gN, gT, gsCons, gsNil, cVar, cC, cBin, cUn, cNil, cCons, cApp, cB, cTr, cAnd, cOr, cNot, cV, cAndV, cOrV, cNotV, cIf, nD, mkTup, mkLst, mkBox, asQ, asL, negD, addD, subD, cmpD, isND, notND, eqD, neD, eqS, lenD, tupleD, DL.intD, cM, apnd, popM, sPar, sPar3, sNext, sAug, ipD, ixB0, noughts_ok (n := b.T) (by omega)]) ?_)
  refine Ev.seq (Ev.for_ (S' := S) eL (fun cs ρ S' => S' = S ∧ ∃ z x4, ρ = [some (eB b), some (.int s), some (eN ns), some (eL z), x4, none] ∧ z.length = b.T ∧ (∀ x ∈ cs, x.length = b.T) ∧ cs.foldl (List.zipWith min) z = (zs b :: crs (zs b) ms).foldl (List.zipWith min) (zs b))
    (xs := (zs b :: crs (zs b) ms).map eL) (by simp [sSeq, sSet, sRet, sExpr, sIf, gN, gT, gsCons, gsNil, cVar, cC, cBin, cUn, cNil, cCons, cApp, cB, cTr, cAnd, cOr, cNot, cV, cAndV, cOrV, cNotV, cIf, nD, mkTup, mkLst, mkBox, asQ, asL, negD, addD, subD, cmpD, isND, notND, eqD, neD, eqS, lenD, tupleD, DL.intD, cM, apnd, popM, sPar, sPar3, sNext, sAug, ipD, cItS, ixB0, noughts_ok (n := b.T) (by omega), course_ok W (l := zs b) (by simp) h hn, itSeq]) rfl ⟨rfl, zs b, none, rfl, hz, hcs, rfl⟩ ?_ ?_)
  · rintro y ys ρ S' ⟨rfl, z, x4, rfl, h1, h2, h3⟩
    refine ⟨_, rfl, Ev.setN (d := eL (List.zipWith min z y)) (S' := S') (by simp [sSeq, sSet, sRet, sExpr, sIf, gN, gT, gsCons, gsNil, cVar, cC, cBin, cUn, cNil, cCons, cApp, cB, cTr, cAnd, cOr, cNot, cV, cAndV, cOrV, cNotV, cIf, nD, mkTup, mkLst, mkBox, asQ, asL, negD, addD, subD, cmpD, isND, notND, eqD, neD, eqS, lenD, tupleD, DL.intD, cM, apnd, popM, sPar, sPar3, sNext, sAug, ipD, lesser_ok (l := z) (by omega)]) ⟨rfl, _, some (eL y), rfl, ?_, fun x hx => h2 x (by simp [hx]), h3⟩⟩
    simp [h1, h2 y (by simp)]
  · rintro ρ S' ⟨rfl, z, x4, rfl, h1, h2, h3⟩
    simp only [List.foldl_nil] at h3
    have hc := cLC_map (S := S') (ρ := [some (eB b), some (.int s), some (eN ns), some (eL z), x4, none]) (vs := [5]) (ci := cItS (cVar 3)) (g := gN 5) (e := cUn negD (cVar 5))
      (l := z) D.int (fun x => .int (-x)) (xs := z.map D.int) (by simp [cItS, cVar, eL, itSeq]) rfl (small (by omega)) (fun q hq => ⟨_, rfl, by simp [cUn, cVar, wipeD, negD]⟩)
    refine Ev.ret (d := eL (needs b ms)) (S' := S') ?_ ⟨[], by simp⟩
    simp only [cApp, cCons, cNil, hc, tupleD, asQ, asL]
    simp only [needs, ← h3, eL, List.map_map]
    rfl
theorem within_ok {n lo hi : Int} {S : Store} (h1 : lo ≤ n) (h2 : n ≤ hi) : f_integer_within [.int n, .int lo, .int hi] S = some (.bl true, S) := by
  refine call_rt0 ?_ rfl
  simp [c_integer_within, sSeq, sSet, sRet, sExpr, sIf, gN, gT, gsCons, gsNil, cVar, cC, cBin, cUn, cNil, cCons, cApp, cB, cTr, cAnd, cOr, cNot, cV, cAndV, cOrV, cNotV, cIf, nD, mkTup, mkLst, mkBox, asQ, asL, negD, addD, subD, cmpD, isND, notND, eqD, neD, eqS, lenD, tupleD, DL.intD, cM, apnd, popM, sPar, sPar3, sNext, sAug, ipD, isInt_ok, cChain, h1, h2]
theorem enum_map {α : Type} (f : α → D) : ∀ (k : Nat) (l : List α), enumFrom k (l.map f) = (l.zipIdx k).map fun p => .tup [.int (p.2 : Nat), f p.1]
  | _, [] => rfl
  | k, x :: l => by simp [enumFrom, enum_map f (k + 1) l, List.zipIdx_cons]
theorem check_ok {b : Bk} (W : WB b) {s : Nat} {l : Lv} {ns : List Nat} {ms : List Mv} {s' : Nat} {S : Store} (hl : l.length = b.T) (h : Wk b s ns ms s') (hn : ns.length ≤ 600) (hd : dry l = false) (hds : ∀ x ∈ crs l ms, dry x = false) :
    f_check_play [eB b, .int s, eL l, eN ns] S = some (.int ns.length, S) := by
  have hT := W.t2
  refine call_ev ?_ rfl
  unfold c_check_play
  refine Ev.seq (Ev.ifF (S' := S) (by simp [sSeq, sSet, sRet, sExpr, sIf, gN, gT, gsCons, gsNil, cVar, cC, cBin, cUn, cNil, cCons, cApp, cB, cTr, cAnd, cOr, cNot, cV, cAndV, cOrV, cNotV, cIf, nD, mkTup, mkLst, mkBox, asQ, asL, negD, addD, subD, cmpD, isND, notND, eqD, neD, eqS, lenD, tupleD, DL.intD, cM, apnd, popM, sPar, sPar3, sNext, sAug, ipD, cUn, isiD, tyD, k_tt, eN]; omega) (Ev.next ?_))
  refine Ev.seq (Ev.setN (d := .int s) (S' := S) (by simp [sSeq, sSet, sRet, sExpr, sIf, gN, gT, gsCons, gsNil, cVar, cC, cBin, cUn, cNil, cCons, cApp, cB, cTr, cAnd, cOr, cNot, cV, cAndV, cOrV, cNotV, cIf, nD, mkTup, mkLst, mkBox, asQ, asL, negD, addD, subD, cmpD, isND, notND, eqD, neD, eqS, lenD, tupleD, DL.intD, cM, apnd, popM, sPar, sPar3, sNext, sAug, ipD]) ?_)
  refine Ev.seq (Ev.for_ (S' := S) (fun p : Nat × Nat => .tup [.int (p.2 : Nat), .int (p.1 : Nat)]) (fun ps ρ S' => S' = S ∧ ∃ s0 l0 ns' k ms' x5 x6 x7, ρ = [some (eB b), some (.int s), some (eL l0), some (eN ns), some (.int (s0 : Nat)), x5, x6, x7] ∧ ps = ns'.zipIdx k ∧ Wk b s0 ns' ms' s' ∧ l0.length = b.T ∧ dry l0 = false ∧ ∀ x ∈ crs l0 ms', dry x = false)
    (xs := enumFrom 0 (ns.map fun n => .int (n : Nat))) (by simp [cEnum, cVar, eN, itEnum]) (enum_map _ _ _) ⟨rfl, s, l, ns, 0, ms, none, none, none, rfl, rfl, h, hl, hd, hds⟩ ?_ ?_)
  · rintro y ys ρ S' ⟨rfl, s0, l0, ns', k, ms', x5, x6, x7, rfl, e, hw, hl0, hd0, hds0⟩
    cases hw with
    | nil => simp at e
    | @cons _ n m ns2 ms2 _ hm hw =>
      rw [List.zipIdx_cons] at e
      cases e
      have hlt := (List.getElem?_eq_some_iff.mp hm).1
      refine ⟨_, by simp [gT, gsCons, gN, gsNil]; rfl, ?_⟩
      refine Ev.seq (Ev.setN (d := .tup ((mvs b s0).map eM)) (S' := S') (by simp [sSeq, sSet, sRet, sExpr, sIf, gN, gT, gsCons, gsNil, cVar, cC, cBin, cUn, cNil, cCons, cApp, cB, cTr, cAnd, cOr, cNot, cV, cAndV, cOrV, cNotV, cIf, nD, mkTup, mkLst, mkBox, asQ, asL, negD, addD, subD, cmpD, isND, notND, eqD, neD, eqS, lenD, tupleD, DL.intD, cM, apnd, popM, sPar, sPar3, sNext, sAug, ipD, moves_ok (st_lt hm)]) ?_)
      have hne : (mvs b s0) ≠ [] := by
        intro z
        rw [z] at hlt
        simp at hlt
      refine Ev.seq (Ev.ifF (S' := S') (by simp [sSeq, sSet, sRet, sExpr, sIf, gN, gT, gsCons, gsNil, cVar, cC, cBin, cUn, cNil, cCons, cApp, cB, cTr, cAnd, cOr, cNot, cV, cAndV, cOrV, cNotV, cIf, nD, mkTup, mkLst, mkBox, asQ, asL, negD, addD, subD, cmpD, isND, notND, eqD, neD, eqS, lenD, tupleD, DL.intD, cM, apnd, popM, sPar, sPar3, sNext, sAug, ipD, dry_ok (l := l0) (by omega), hd0, truD, hne]) (Ev.next ?_))
      refine Ev.seq (Ev.ifF (S' := S') (by simp [sSeq, sSet, sRet, sExpr, sIf, gN, gT, gsCons, gsNil, cVar, cC, cBin, cUn, cNil, cCons, cApp, cB, cTr, cAnd, cOr, cNot, cV, cAndV, cOrV, cNotV, cIf, nD, mkTup, mkLst, mkBox, asQ, asL, negD, addD, subD, cmpD, isND, notND, eqD, neD, eqS, lenD, tupleD, DL.intD, cM, apnd, popM, sPar, sPar3, sNext, sAug, ipD, within_ok (n := (n : Int)) (lo := 0) (hi := (((mvs b s0).length : Int) - 1)) (by omega) (by omega)]) (Ev.next ?_))
      refine Ev.seq (Ev.setN (d := eL (add l0 m.p)) (S' := S') (by simp [sSeq, sSet, sRet, sExpr, sIf, gN, gT, gsCons, gsNil, cVar, cC, cBin, cUn, cNil, cCons, cApp, cB, cTr, cAnd, cOr, cNot, cV, cAndV, cOrV, cNotV, cIf, nD, mkTup, mkLst, mkBox, asQ, asL, negD, addD, subD, cmpD, isND, notND, eqD, neD, eqS, lenD, tupleD, DL.intD, cM, apnd, popM, sPar, sPar3, sNext, sAug, ipD, ixMs hm, ixM1, poured_ok (l := l0) (by omega)]) ?_)
      refine Ev.setN (d := .int m.to) (S' := S') (by simp [sSeq, sSet, sRet, sExpr, sIf, gN, gT, gsCons, gsNil, cVar, cC, cBin, cUn, cNil, cCons, cApp, cB, cTr, cAnd, cOr, cNot, cV, cAndV, cOrV, cNotV, cIf, nD, mkTup, mkLst, mkBox, asQ, asL, negD, addD, subD, cmpD, isND, notND, eqD, neD, eqS, lenD, tupleD, DL.intD, cM, apnd, popM, sPar, sPar3, sNext, sAug, ipD, ixMs hm, ixM2]) ?_
      refine ⟨rfl, m.to, add l0 m.p, ns2, k + 1, ms2, _, _, _, rfl, rfl, hw, ?_, ?_, ?_⟩
      · rw [add_len, hl0]
        rw [W.mp (List.mem_of_getElem? hm), hl0]
      · exact hds0 _ (by simp [crs])
      · intro x hx
        exact hds0 x (by simp [crs, hx])
  · rintro ρ S' ⟨rfl, s0, l0, ns', k, ms', x5, x6, x7, rfl, e, hw, hl0, hd0, hds0⟩
    refine Ev.ret (d := .int ns.length) (S' := S') (by simp [sSeq, sSet, sRet, sExpr, sIf, gN, gT, gsCons, gsNil, cVar, cC, cBin, cUn, cNil, cCons, cApp, cB, cTr, cAnd, cOr, cNot, cV, cAndV, cOrV, cNotV, cIf, nD, mkTup, mkLst, mkBox, asQ, asL, negD, addD, subD, cmpD, isND, notND, eqD, neD, eqS, lenD, tupleD, DL.intD, cM, apnd, popM, sPar, sPar3, sNext, sAug, ipD, eN]) ⟨[], by simp⟩
end K88

namespace K88
open PySem PySem.Spec PyProof.Rows L2 DL

abbrev gt (l : Lv) (t : Nat) : Int := l.getD t 0
theorem ixL {l : Lv} {t : Nat} (h : t < l.length) {S : Store} : ixD (eL l) (.int t) S = some (.int (gt l t), S) := by
  have e : (l.map D.int)[t]? = some (.int (gt l t)) := by
    rw [List.getElem?_map, List.getElem?_eq_getElem h]
    simp [gt, List.getD, h]
  show ixD (.tup (l.map D.int)) (.int t) S = _
  rw [ix_tup, atI_nat e]
  rfl
theorem eL_len {l : Lv} {S : Store} : lenD [eL l] S = some (.int l.length, S) := by simp [lenD, eL]
theorem geB_iff {a c : Lv} (h : a.length = c.length) : geB a c = true ↔ ∀ t, t < a.length → gt c t ≤ gt a t := by
  induction a generalizing c with
  | nil => simp [geB]
  | cons x a ih =>
    cases c with
    | nil => simp at h
    | cons y c =>
      have h' : a.length = c.length := by simpa using h
      have e : geB (x :: a) (y :: c) = (decide (y ≤ x) && geB a c) := by simp [geB]
      rw [e, Bool.and_eq_true, ih h', decide_eq_true_eq]
      refine ⟨fun ⟨h1, h2⟩ t ht => ?_, fun hh => ⟨by simpa [gt] using hh 0 (by simp), fun t ht => by simpa [gt] using hh (t + 1) (by simpa using ht)⟩⟩
      cases t with
      | zero => simpa [gt] using h1
      | succ t => simpa [gt] using h2 t (by simpa using ht)
theorem least_ok {a c : Lv} {S : Store} (hl : a.length = c.length) (hz : a.length ≤ 100000) : f__law_least [eL a, eL c] S = some (.bl (geB a c), S) := by
  refine call_rt0 ?_ rfl
  have hc := cLC_fm (S := S) (ρ := [some (eL a), some (eL c), none]) (vs := [2]) (ci := cRng1 (cApp lenD (cCons (cVar 0) cNil))) (g := gN 2) (t := cB (cBin ltD (cBin ixD (cVar 0) (cVar 2)) (cBin ixD (cVar 1) (cVar 2)))) (e := cVar 2)
    (l := List.range a.length) (fun i => D.int (i : Nat)) (fun i => decide (gt a i < gt c i)) (fun i => D.int (i : Nat)) (rng1 (by simp [sSeq, sSet, sRet, sExpr, sIf, gN, gT, gsCons, gsNil, cVar, cC, cBin, cUn, cNil, cCons, cApp, cB, cTr, cAnd, cOr, cNot, cV, cAndV, cOrV, cNotV, cIf, nD, mkTup, mkLst, mkBox, asQ, asL, negD, addD, subD, cmpD, isND, notND, eqD, neD, eqS, lenD, tupleD, DL.intD, cM, apnd, popM, sPar, sPar3, sNext, sAug, ipD, eL]) (by omega)) rfl (small (by simpa using hz))
    (fun q hq => ⟨_, rfl, by
      have h1 := List.mem_range.mp hq
      simp [sSeq, sSet, sRet, sExpr, sIf, gN, gT, gsCons, gsNil, cVar, cC, cBin, cUn, cNil, cCons, cApp, cB, cTr, cAnd, cOr, cNot, cV, cAndV, cOrV, cNotV, cIf, nD, mkTup, mkLst, mkBox, asQ, asL, negD, addD, subD, cmpD, isND, notND, eqD, neD, eqS, lenD, tupleD, DL.intD, cM, apnd, popM, sPar, sPar3, sNext, sAug, ipD, wipeD, ixL h1, ixL (l := c) (t := q) (by omega)], fun _ => by simp [sSeq, sSet, sRet, sExpr, sIf, gN, gT, gsCons, gsNil, cVar, cC, cBin, cUn, cNil, cCons, cApp, cB, cTr, cAnd, cOr, cNot, cV, cAndV, cOrV, cNotV, cIf, nD, mkTup, mkLst, mkBox, asQ, asL, negD, addD, subD, cmpD, isND, notND, eqD, neD, eqS, lenD, tupleD, DL.intD, cM, apnd, popM, sPar, sPar3, sNext, sAug, ipD, wipeD]⟩)
  simp only [c__law_least, sRet, cBin, cApp, cCons, cNil, List.map_cons, List.map_nil, List.length_cons, List.length_nil, List.replicate, Nat.reduceSub, List.cons_append, List.nil_append, Nat.reduceAdd, Nat.zero_add]
  rw [hc]
  have e : decide ((((List.range a.length).filter fun i => decide (gt a i < gt c i)).length : Int) = 0) = geB a c := by
    rw [Bool.eq_iff_iff, decide_eq_true_eq, geB_iff hl]
    rw [Int.natCast_eq_zero, List.length_eq_zero_iff, List.filter_eq_nil_iff]
    simp
  simp only [cC, lenD, asQ, asL, List.length_map, eqD, eqS, Option.map_some]
  rw [e]
theorem tcol {T : Nat} {l p : Lv} {t : Nat} (hl : l.length = T) (hp : p.length = T) (ht : t < T) : gt (add l p) t = gt l t + gt p t := by
  have h1 : t < l.length := by omega
  have h2 : t < p.length := by omega
  simp [gt, add, List.getD, List.getElem?_zipWith, h1, h2]
theorem add_map {T : Nat} {l p : Lv} (hl : l.length = T) (hp : p.length = T) : (List.range T).map (fun t => D.int (gt l t + gt p t)) = (add l p).map D.int := by
  refine List.ext_getElem? fun t => ?_
  rw [List.getElem?_map, List.getElem?_map]
  by_cases ht : t < T
  · rw [List.getElem?_range ht, List.getElem?_eq_getElem (by simp [add, hl, hp, ht])]
    have := tcol hl hp ht
    simp only [Option.map_some]
    rw [← this]
    simp [gt, List.getD, add, hl, hp, ht]
  · rw [List.getElem?_eq_none (by simpa using ht), List.getElem?_eq_none (by simp [add, hl, hp]; omega)]
    rfl
theorem cCons1 {a : DE} {ρ : Env'} {S S1 : Store} {x : D} (h : a ρ S = some (x, S1)) : cCons a cNil ρ S = some ([x], S1) := by simp only [cCons, cNil, h]
theorem lawCourse_ok {b : Bk} (W : WB b) {s : Nat} {l : Lv} {ns : List Nat} {ms : List Mv} {s' : Nat} {S : Store} (hl : l.length = b.T) (h : Wk b s ns ms s') (hn : ns.length ≤ 1000) : f__law_course [eB b, .int s, eL l, eN ns] S = some (.tup [.lst ((l :: crs l ms).map eL), .int s'], S) := by
  have hT := W.t2
  have z1 : (1 : Nat) ≤ sizeLine := by rw [sizeLine_eq]; omega
  have z2 : (2 : Nat) ≤ sizeLine := by rw [sizeLine_eq]; omega
  refine call_ev ?_ (by
    have e : belows 0 ((l :: crs l ms).map eL) = true := belows_map fun _ _ => below_eL _
    simp only [below, belows, e, Bool.and_true])
  unfold c__law_course
  refine Ev.seq (Ev.set (d := .tup [.ref S.length, .int s]) (S' := S ++ [.lst [eL l]]) (ρ' := [some (eB b), some (.int s), some (eL l), some (eN ns), some (.ref S.length), some (.int s), none, none, none, none, none]) (by simp [sSeq, sSet, sRet, sExpr, sIf, gN, gT, gsCons, gsNil, cVar, cC, cBin, cUn, cNil, cCons, cApp, cB, cTr, cAnd, cOr, cNot, cV, cAndV, cOrV, cNotV, cIf, nD, mkTup, mkLst, mkBox, asQ, asL, negD, addD, subD, cmpD, isND, notND, eqD, neD, eqS, lenD, tupleD, DL.intD, cM, apnd, popM, sPar, sPar3, sNext, sAug, ipD, z1, z2]) (by simp [gT, gsCons, gN, gsNil]) ?_)
  refine Ev.seq (Ev.for_ (S' := S ++ [.lst [eL l]]) (fun n : Nat => .int (n : Nat)) (fun ns' ρ S' => ∃ s0 l0 pre ms' x6 x7 x8 x9, ρ = [some (eB b), some (.int s), some (eL l), some (eN ns), some (.ref S.length), some (.int (s0 : Nat)), x6, x7, x8, x9, none] ∧ S' = S ++ [.lst ((pre ++ [l0]).map eL)] ∧ Wk b s0 ns' ms' s' ∧ pre ++ l0 :: crs l0 ms' = l :: crs l ms ∧ l0.length = b.T)
    (xs := ns.map fun n => .int (n : Nat)) (by simp [cItS, cVar, eN, itSeq]) rfl ⟨s, l, [], ms, none, none, none, none, rfl, rfl, h, rfl, hl⟩ ?_ ?_)
  · rintro n ns' ρ S' ⟨s0, l0, pre, ms', x6, x7, x8, x9, rfl, rfl, hw, hcs, hl0⟩
    cases hw with
    | @cons _ _ m _ ms2 _ hm hw =>
      obtain ⟨x, hx, hmx⟩ := ixSt (st_lt hm)
      have hlt := (List.getElem?_eq_some_iff.mp hm).1
      have hpm : m.p.length = b.T := W.mp (List.mem_of_getElem? hm)
      rw [hmx] at hlt hm
      refine ⟨_, rfl, ?_⟩
      refine Ev.seq (Ev.ifF (S' := S ++ [.lst ((pre ++ [l0]).map eL)]) (by
        have a1 : ¬ ((n : Int) < 0) := by omega
        have a2 : ¬ ((x.2.length : Int) ≤ (n : Int)) := by omega
        simp [sSeq, sSet, sRet, sExpr, sIf, gN, gT, gsCons, gsNil, cVar, cC, cBin, cUn, cNil, cCons, cApp, cB, cTr, cAnd, cOr, cNot, cV, cAndV, cOrV, cNotV, cIf, nD, mkTup, mkLst, mkBox, asQ, asL, negD, addD, subD, cmpD, isND, notND, eqD, neD, eqS, lenD, tupleD, DL.intD, cM, apnd, popM, sPar, sPar3, sNext, sAug, ipD, whole_ok, ixB1, hx, ixS1, a1, a2]) (Ev.next ?_))
      refine Ev.seq (Ev.set (d := eM m) (S' := S ++ [.lst ((pre ++ [l0]).map eL)]) (ρ' := [some (eB b), some (.int s), some (eL l), some (eN ns), some (.ref S.length), some (.int s0), some (.int n), some (.str m.w), some (eL m.p), some (.int m.to), none]) (by simp [sSeq, sSet, sRet, sExpr, sIf, gN, gT, gsCons, gsNil, cVar, cC, cBin, cUn, cNil, cCons, cApp, cB, cTr, cAnd, cOr, cNot, cV, cAndV, cOrV, cNotV, cIf, nD, mkTup, mkLst, mkBox, asQ, asL, negD, addD, subD, cmpD, isND, notND, eqD, neD, eqS, lenD, tupleD, DL.intD, cM, apnd, popM, sPar, sPar3, sNext, sAug, ipD, ixB1, hx, ixS1, ixMs hm]) (by simp [gT, gsCons, gN, gsNil, eM]) ?_)
      have h2 : L2.atI (pre.map eL ++ [eL l0]) (-1) = some (eL l0) := atI_last _ _
      have hpre : (pre ++ [l0]).length ≤ 1001 := by
        have e := congrArg List.length hcs
        simp [crs_len, h.len] at e
        simp
        omega
      have h3 : pre.length + 1 < sizeLine := by
        rw [sizeLine_eq]
        simp at hpre
        omega
      have hc := cLC_map (S := S ++ [.lst ((pre ++ [l0]).map eL)]) (ρ := [some (eB b), some (.int s), some (eL l), some (eN ns), some (.ref S.length), some (.int s0), some (.int n), some (.str m.w), some (eL m.p), some (.int m.to), none]) (vs := [10])
        (ci := cRng1 (cBin ixD (cVar 0) (cC (.int 0)))) (g := gN 10) (e := cBin addD (cBin ixD (cBin ixD (cVar 4) (cUn negD (cC (.int 1)))) (cVar 10)) (cBin ixD (cVar 8) (cVar 10)))
        (l := List.range b.T) (fun i => D.int (i : Nat)) (fun t => .int (gt l0 t + gt m.p t)) (rng1 (n := b.T) (by simp [sSeq, sSet, sRet, sExpr, sIf, gN, gT, gsCons, gsNil, cVar, cC, cBin, cUn, cNil, cCons, cApp, cB, cTr, cAnd, cOr, cNot, cV, cAndV, cOrV, cNotV, cIf, nD, mkTup, mkLst, mkBox, asQ, asL, negD, addD, subD, cmpD, isND, notND, eqD, neD, eqS, lenD, tupleD, DL.intD, cM, apnd, popM, sPar, sPar3, sNext, sAug, ipD, ixB0]) (by omega)) rfl (small (by simp; omega))
        (fun q hq => ⟨_, rfl, by
          have h1 := List.mem_range.mp hq
          have e1 : ixD (.ref S.length) (.int (-1)) (S ++ [.lst ((pre ++ [l0]).map eL)]) = some (eL l0, S ++ [.lst ((pre ++ [l0]).map eL)]) := by simp [ixD, asQ, asL, h2]
          simp [sSeq, sSet, sRet, sExpr, sIf, gN, gT, gsCons, gsNil, cVar, cC, cBin, cUn, cNil, cCons, cApp, cB, cTr, cAnd, cOr, cNot, cV, cAndV, cOrV, cNotV, cIf, nD, mkTup, mkLst, mkBox, asQ, asL, negD, addD, subD, cmpD, isND, notND, eqD, neD, eqS, lenD, tupleD, DL.intD, cM, apnd, popM, sPar, sPar3, sNext, sAug, ipD, wipeD, -List.map_append, e1, ixL (l := l0) (t := q) (by omega), ixL (l := m.p) (t := q) (by omega)]⟩)
      rw [add_map hl0 hpm] at hc
      refine Ev.seq (Ev.expr (d := .non) (S' := S ++ [.lst ((pre ++ [l0] ++ [add l0 m.p]).map eL)]) ?_ ?_)
      · have hc' : cApp tupleD (cCons (cLC [10] false (cRng1 (cBin ixD (cVar 0) (cC (.int 0)))) (lt1 (gN 10) tYesD (cBin addD (cBin ixD (cBin ixD (cVar 4) (cUn negD (cC (.int 1)))) (cVar 10)) (cBin ixD (cVar 8) (cVar 10))))) cNil) [some (eB b), some (.int s), some (eL l), some (eN ns), some (.ref S.length), some (.int s0), some (.int n), some (.str m.w), some (eL m.p), some (.int m.to), none] (S ++ [.lst ((pre ++ [l0]).map eL)]) = some (eL (add l0 m.p), S ++ [.lst ((pre ++ [l0]).map eL)]) := by
          simp only [cApp, cCons, cNil, hc, tupleD, asQ, asL]
          rfl
        unfold cM
        have ho : ∀ S0 : Store, cVar 4 [some (eB b), some (.int s), some (eL l), some (eN ns), some (.ref S.length), some (.int s0), some (.int n), some (.str m.w), some (eL m.p), some (.int m.to), none] S0 = some (.ref S.length, S0) := fun _ => rfl
        rw [ho]
        have hg : (S ++ [Cell.lst ((pre ++ [l0]).map eL)])[S.length]? = some (Cell.lst ((pre ++ [l0]).map eL)) := by simp
        simp only [hg]
        rw [cCons1 hc']
        simp only [hg, apnd, List.length_map]
        rw [if_pos (by rw [sizeLine_eq]; omega), set_end]
        simp
      · refine Ev.setN (d := .int m.to) (S' := S ++ [.lst ((pre ++ [l0] ++ [add l0 m.p]).map eL)]) (by simp [sSeq, sSet, sRet, sExpr, sIf, gN, gT, gsCons, gsNil, cVar, cC, cBin, cUn, cNil, cCons, cApp, cB, cTr, cAnd, cOr, cNot, cV, cAndV, cOrV, cNotV, cIf, nD, mkTup, mkLst, mkBox, asQ, asL, negD, addD, subD, cmpD, isND, notND, eqD, neD, eqS, lenD, tupleD, DL.intD, cM, apnd, popM, sPar, sPar3, sNext, sAug, ipD]) ⟨m.to, add l0 m.p, pre ++ [l0], ms2, _, _, _, _, rfl, rfl, hw, ?_, ?_⟩
        · rw [← hcs]; simp [crs]
        · rw [add_len, hl0]
          rw [hpm, hl0]
  · rintro ρ S' ⟨s0, l0, pre, ms', x6, x7, x8, x9, rfl, rfl, hw, hcs, hl0⟩
    cases hw
    simp only [crs] at hcs
    refine Ev.ret (d := .tup [.lst ((l :: crs l ms).map eL), .int s']) (S' := S ++ [.dead]) ?_ ⟨[.dead], rfl⟩
    rw [← hcs]
    simp [sSeq, sSet, sRet, sExpr, sIf, gN, gT, gsCons, gsNil, cVar, cC, cBin, cUn, cNil, cCons, cApp, cB, cTr, cAnd, cOr, cNot, cV, cAndV, cOrV, cNotV, cIf, nD, mkTup, mkLst, mkBox, asQ, asL, negD, addD, subD, cmpD, isND, notND, eqD, neD, eqS, lenD, tupleD, DL.intD, cM, apnd, popM, sPar, sPar3, sNext, sAug, ipD, cFrz, z2]
end K88

namespace K88
open PySem PySem.Spec PyProof.Rows L2 DL

mutual
def okI : D → Bool
  | .int _ => true
  | .tup ds => okIs ds
  | .non => false
  | .bl _ => false
  | .str _ => false
  | .lst _ => false
  | .scr _ => false
  | .ref _ => false
def okIs : List D → Bool
  | [] => true
  | d :: ds => okI d && okIs ds
end
mutual
def nd : D → Nat
  | .tup ds => 1 + nds ds
  | .int _ => 1
  | .non => 1
  | .bl _ => 1
  | .str _ => 1
  | .lst _ => 1
  | .scr _ => 1
  | .ref _ => 1
def nds : List D → Nat
  | [] => 0
  | d :: ds => nd d + nds ds
end
theorem okIs_all : ∀ {ds : List D}, okIs ds = true ↔ ∀ d ∈ ds, okI d = true
  | [] => by simp [okIs]
  | d :: ds => by simp [okIs, okIs_all (ds := ds)]
theorem nds_app : ∀ (a b : List D), nds (a ++ b) = nds a + nds b
  | [], b => by simp [nds]
  | d :: a, b => by simp only [List.cons_append, nds, nds_app a b]; omega
theorem nd_pos (d : D) : 1 ≤ nd d := by cases d <;> simp [nd]
theorem nds_len : ∀ (ds : List D), ds.length ≤ nds ds
  | [] => by simp [nds]
  | d :: ds => by
    have := nds_len ds
    have := nd_pos d
    simp only [List.length_cons, nds]
    omega
abbrev pair (d : D) : D := .tup [d, d]
theorem rng_at {n j k : Nat} {ks : List Nat} (h : k :: ks = List.range' j (n - j)) (hj : j ≤ n) : k = j ∧ j < n ∧ ks = List.range' (j + 1) (n - (j + 1)) := by
  cases e : n - j with
  | zero => rw [e] at h; simp at h
  | succ m =>
    rw [e, List.range'_succ] at h
    cases h
    refine ⟨rfl, by omega, ?_⟩
    congr 1
    omega
theorem same_ok {d : D} {S : Store} (ok : okI d = true) (hn : nd d < 100000) : f__law_same [d, d] S = some (.bl true, S) := by
  have z1 : (1 : Nat) ≤ sizeLine := by rw [sizeLine_eq]; omega
  have z2 : (2 : Nat) ≤ sizeLine := by rw [sizeLine_eq]; omega
  refine call_ev ?_ rfl
  unfold c__law_same
  refine Ev.seq (Ev.setN (d := .ref S.length) (S' := S ++ [.lst [pair d]]) (by simp [sSeq, sSet, sRet, sExpr, sIf, gN, gT, gsCons, gsNil, cVar, cC, cBin, cUn, cNil, cCons, cApp, cB, cTr, cAnd, cOr, cNot, cV, cAndV, cOrV, cNotV, cIf, nD, mkTup, mkLst, mkBox, asQ, asL, negD, addD, subD, cmpD, isND, notND, eqD, neD, eqS, lenD, tupleD, DL.intD, cM, apnd, popM, sPar, sPar3, sNext, sAug, ipD, z1, z2]) ?_)
  refine Ev.seq (Ev.for_ (S' := S ++ [.lst [pair d]]) (fun n : Nat => .int (n : Nat)) (fun ys ρ S' => ∃ l x3 x4 x5 x6, ρ = [some d, some d, some (.ref S.length), x3, x4, x5, x6] ∧ S' = S ++ [.lst (l.map pair)] ∧ okIs l = true ∧ nds l < ys.length ∧ nds l < 100000)
    (rng1 (n := 100000) rfl (by omega)) rfl ⟨[d], none, none, none, none, rfl, rfl, by simp [okIs, ok], by rw [List.length_range]; simpa [nds] using hn, by simpa [nds] using hn⟩ ?_ ?_)
  · rintro lap ys ρ S' ⟨l, x3, x4, x5, x6, rfl, rfl, hok, hnd, hN⟩
    refine ⟨_, rfl, ?_⟩
    rcases List.eq_nil_or_concat l with rfl | ⟨l', d', rfl⟩
    · exact Ev.seq (Ev.ifT (S' := S ++ [.lst []]) (by simp [sSeq, sSet, sRet, sExpr, sIf, gN, gT, gsCons, gsNil, cVar, cC, cBin, cUn, cNil, cCons, cApp, cB, cTr, cAnd, cOr, cNot, cV, cAndV, cOrV, cNotV, cIf, nD, mkTup, mkLst, mkBox, asQ, asL, negD, addD, subD, cmpD, isND, notND, eqD, neD, eqS, lenD, tupleD, DL.intD, cM, apnd, popM, sPar, sPar3, sNext, sAug, ipD]) (Ev.ret (d := .bl true) (S' := S ++ [.lst []]) rfl ⟨[.lst []], rfl⟩))
    · rw [List.concat_eq_append] at hok hnd hN ⊢
      have hok' := okIs_all.mp hok
      have hd' : okI d' = true := hok' d' (by simp)
      rw [nds_app] at hnd hN
      simp only [nds, Nat.add_zero] at hnd hN
      have hll := nds_len l'
      refine Ev.seq (Ev.ifF (S' := S ++ [.lst ((l' ++ [d']).map pair)]) (by simp [sSeq, sSet, sRet, sExpr, sIf, gN, gT, gsCons, gsNil, cVar, cC, cBin, cUn, cNil, cCons, cApp, cB, cTr, cAnd, cOr, cNot, cV, cAndV, cOrV, cNotV, cIf, nD, mkTup, mkLst, mkBox, asQ, asL, negD, addD, subD, cmpD, isND, notND, eqD, neD, eqS, lenD, tupleD, DL.intD, cM, apnd, popM, sPar, sPar3, sNext, sAug, ipD]; omega) (Ev.next ?_))
      have hlast : ((l' ++ [d']).map pair)[((l' ++ [d']).map pair).length - 1]? = some (pair d') := by simp
      have hdl : ((l' ++ [d']).map pair).dropLast = l'.map pair := by simp
      refine Ev.seq (Ev.set (d := pair d') (S' := S ++ [.lst (l'.map pair)]) (ρ' := [some d, some d, some (.ref S.length), some (.int lap), some d', some d', x6]) ?_ (by simp [gT, gsCons, gN, gsNil, pair]) ?_)
      · have hg : ∀ c : Cell, (S ++ [c])[S.length]? = some c := fun c => by simp
        simp only [cM, cVar, cNil, List.set_cons_zero, List.set_cons_succ, gN, List.getElem?_cons_zero, List.getElem?_cons_succ, hg, popM, hlast, hdl, set_end, Option.map_some]
      · cases d' with
        | int i =>
          refine Ev.ifF (S' := S ++ [.lst (l'.map pair)]) (by simp [sSeq, sSet, sRet, sExpr, sIf, gN, gT, gsCons, gsNil, cVar, cC, cBin, cUn, cNil, cCons, cApp, cB, cTr, cAnd, cOr, cNot, cV, cAndV, cOrV, cNotV, cIf, nD, mkTup, mkLst, mkBox, asQ, asL, negD, addD, subD, cmpD, isND, notND, eqD, neD, eqS, lenD, tupleD, DL.intD, cM, apnd, popM, sPar, sPar3, sNext, sAug, ipD, cUn, isiD, tyD, k_it]) ?_
          refine Ev.ifF (S' := S ++ [.lst (l'.map pair)]) (by simp [sSeq, sSet, sRet, sExpr, sIf, gN, gT, gsCons, gsNil, cVar, cC, cBin, cUn, cNil, cCons, cApp, cB, cTr, cAnd, cOr, cNot, cV, cAndV, cOrV, cNotV, cIf, nD, mkTup, mkLst, mkBox, asQ, asL, negD, addD, subD, cmpD, isND, notND, eqD, neD, eqS, lenD, tupleD, DL.intD, cM, apnd, popM, sPar, sPar3, sNext, sAug, ipD, whole_ok]) (Ev.next ?_)
          refine ⟨l', _, _, _, _, rfl, rfl, okIs_all.mpr fun x hx => hok' x (by simp [hx]), ?_, by omega⟩
          have := nd_pos (.int i)
          simp only [List.length_cons] at hnd
          omega
        | tup ds =>
          have hds : okIs ds = true := hd'
          have hnn : nd (.tup ds) = 1 + nds ds := by simp [nd]
          have hdl := nds_len ds
          refine Ev.ifT (S' := S ++ [.lst (l'.map pair)]) (by simp [sSeq, sSet, sRet, sExpr, sIf, gN, gT, gsCons, gsNil, cVar, cC, cBin, cUn, cNil, cCons, cApp, cB, cTr, cAnd, cOr, cNot, cV, cAndV, cOrV, cNotV, cIf, nD, mkTup, mkLst, mkBox, asQ, asL, negD, addD, subD, cmpD, isND, notND, eqD, neD, eqS, lenD, tupleD, DL.intD, cM, apnd, popM, sPar, sPar3, sNext, sAug, ipD, cUn, isiD, tyD, k_tt]) ?_
          refine Ev.seq (Ev.ifF (S' := S ++ [.lst (l'.map pair)]) (by simp [sSeq, sSet, sRet, sExpr, sIf, gN, gT, gsCons, gsNil, cVar, cC, cBin, cUn, cNil, cCons, cApp, cB, cTr, cAnd, cOr, cNot, cV, cAndV, cOrV, cNotV, cIf, nD, mkTup, mkLst, mkBox, asQ, asL, negD, addD, subD, cmpD, isND, notND, eqD, neD, eqS, lenD, tupleD, DL.intD, cM, apnd, popM, sPar, sPar3, sNext, sAug, ipD, cUn, isiD, tyD, k_tt]) (Ev.next ?_))
          refine Ev.for_ (S' := S ++ [.lst (l'.map pair)]) (fun n : Nat => .int (n : Nat)) (fun ks ρ S' => ∃ j x6, ks = List.range' j (ds.length - j) ∧ j ≤ ds.length ∧ ρ = [some d, some d, some (.ref S.length), some (.int lap), some (.tup ds), some (.tup ds), x6] ∧ S' = S ++ [.lst ((l' ++ ds.take j).map pair)])
            (rng1 (n := ds.length) (by simp [sSeq, sSet, sRet, sExpr, sIf, gN, gT, gsCons, gsNil, cVar, cC, cBin, cUn, cNil, cCons, cApp, cB, cTr, cAnd, cOr, cNot, cV, cAndV, cOrV, cNotV, cIf, nD, mkTup, mkLst, mkBox, asQ, asL, negD, addD, subD, cmpD, isND, notND, eqD, neD, eqS, lenD, tupleD, DL.intD, cM, apnd, popM, sPar, sPar3, sNext, sAug, ipD]) (by omega)) rfl ⟨0, x6, by rw [List.range_eq_range']; simp, Nat.zero_le _, rfl, by simp⟩ ?_ ?_
          · rintro k ks ρ S' ⟨j, x6, hk, hj, rfl, rfl⟩
            obtain ⟨rfl, hlt, rfl⟩ := rng_at hk hj
            refine ⟨_, rfl, Ev.expr (d := .non) (S' := S ++ [.lst ((l' ++ ds.take (k + 1)).map pair)]) ?_ ⟨k + 1, _, rfl, hlt, rfl, rfl⟩⟩
            have hix : ∀ S0 : Store, ixD (.tup ds) (.int k) S0 = some (ds[k], S0) := fun S0 => by
              rw [ix_tup, atI_nat (v := ds[k]) (by simp [hlt])]
              rfl
            have hsz : ((l' ++ ds.take k).map pair).length < sizeLine := by
              rw [sizeLine_eq]
              simp
              omega
            have hg : ∀ c : Cell, (S ++ [c])[S.length]? = some c := fun c => by simp
            have htk : (l' ++ ds.take k).map pair ++ [pair ds[k]] = (l' ++ ds.take (k + 1)).map pair := by
              rw [List.take_add_one, List.getElem?_eq_getElem hlt, ← List.append_assoc, List.map_append (l₁ := l' ++ ds.take k)]
              rfl
            simp only [cM, cVar, cNil, cCons, cApp, cBin, mkTup, List.set_cons_zero, List.set_cons_succ, gN, List.getElem?_cons_zero, List.getElem?_cons_succ, hg, hix, apnd, hsz, if_true, set_end, List.length_cons, List.length_nil, Nat.zero_add, Nat.reduceAdd, z2, htk]
          · rintro ρ S' ⟨j, x6, hk, hj, rfl, rfl⟩
            have hjn : j = ds.length := by
              have := congrArg List.length hk
              simp at this
              omega
            subst hjn
            refine ⟨l' ++ ds, _, _, _, _, rfl, by rw [List.take_length], okIs_all.mpr fun x hx => ?_, ?_, ?_⟩
            · rcases List.mem_append.mp hx with hx | hx
              · exact hok' x (by simp [hx])
              · exact okIs_all.mp hds x hx
            · rw [nds_app]
              simp only [List.length_cons] at hnd
              omega
            · rw [nds_app]
              omega
        | _ => cases hd'
  · rintro ρ S' ⟨l, x3, x4, x5, x6, rfl, rfl, hok, hnd, hN⟩
    simp at hnd
end K88

namespace K88
open PySem PySem.Spec PyProof.Rows L2 DL

theorem ext_map {T : Nat} {v : Lv} {f : Nat → Int} (hl : v.length = T) (h : ∀ t, t < T → f t = gt v t) : (List.range T).map (fun t => D.int (f t)) = v.map D.int := by
  refine List.ext_getElem? fun t => ?_
  rw [List.getElem?_map, List.getElem?_map]
  by_cases ht : t < T
  · rw [List.getElem?_range ht, List.getElem?_eq_getElem (by omega)]
    simp only [Option.map_some]
    rw [h t ht]
    simp [gt, List.getD, hl, ht]
  · rw [List.getElem?_eq_none (by simpa using ht), List.getElem?_eq_none (by omega)]
    rfl
theorem col {T t : Nat} (ht : t < T) (c : Int) : ∀ (ms : List Mv) (l z : Lv), l.length = T → z.length = T → (∀ m ∈ ms, m.p.length = T) → gt l t = c + gt z t →
    (crs l ms).map (fun x => gt x t) = (crs z ms).map (fun x => c + gt x t) ∧ gt (fin l ms) t = c + gt (fin z ms) t
  | [], l, z, hl, hz, _, h => ⟨rfl, h⟩
  | m :: ms, l, z, hl, hz, hm, h => by
    have hp := hm m (by simp)
    have h' : gt (add l m.p) t = c + gt (add z m.p) t := by rw [tcol hl hp ht, tcol hz hp ht, h]; omega
    obtain ⟨i1, i2⟩ := col ht c ms (add l m.p) (add z m.p) (by rw [add_len (by omega), hl]) (by rw [add_len (by omega), hz]) (fun x hx => hm x (by simp [hx])) h'
    exact ⟨by simp only [crs, List.map_cons, i1, h'], i2⟩
theorem low_col {T t : Nat} (ht : t < T) : ∀ (cs : List Lv) (z : Lv), z.length = T → (∀ x ∈ cs, x.length = T) → gt (cs.foldl (List.zipWith min) z) t = (cs.map fun x => gt x t).foldl min (gt z t)
  | [], _, _, _ => rfl
  | c :: cs, z, hz, hc => by
    have h1 := hc c (by simp)
    have e : gt (List.zipWith min z c) t = min (gt z t) (gt c t) := by
      have a1 : t < z.length := by omega
      have a2 : t < c.length := by omega
      simp [gt, List.getD, List.getElem?_zipWith, a1, a2]
    rw [List.foldl_cons, low_col ht cs _ (by simp [hz, h1]) (fun x hx => hc x (by simp [hx])), e]
    rfl
theorem maxL2 (a b : Int) : ∀ L : List Int, maxL (a :: b :: L) = maxL (max a b :: L)
  | [] => rfl
  | c :: L => by
    show max a (max b (maxL (c :: L))) = max (max a b) (maxL (c :: L))
    omega
theorem maxneg : ∀ (L : List Int) (a : Int), maxL (a :: L.map fun x => -x) = -(L.foldl min (-a))
  | [], a => by simp [maxL]
  | b :: L, a => by
    rw [List.map_cons, maxL2, maxneg L (max a (-b)), List.foldl_cons]
    have e : -(max a (-b)) = min (-a) b := by omega
    rw [e]
theorem gt_zs {b : Bk} (t : Nat) : gt (zs b) t = 0 := by
  simp only [gt, List.getD, List.getElem?_replicate]
  split <;> rfl
theorem needs_len {b : Bk} (W : WB b) {s : Nat} {ns : List Nat} {ms : List Mv} {s' : Nat} (h : Wk b s ns ms s') : (needs b ms).length = b.T := by
  unfold needs
  rw [List.length_map]
  refine lows_len (by simp) fun x hx => ?_
  rcases List.mem_cons.mp hx with rfl | hx
  · simp
  · exact crs_lens (by simp) (h.pl W) x hx
theorem needs_at {b : Bk} (W : WB b) {s : Nat} {l : Lv} {ns : List Nat} {ms : List Mv} {s' : Nat} (hl : l.length = b.T) (h : Wk b s ns ms s') {t : Nat} (ht : t < b.T) :
    maxL (0 :: (l :: crs l ms).map fun x => gt l t - gt x t) = gt (needs b ms) t := by
  have hz : (zs b).length = b.T := by simp
  have hcs : ∀ x ∈ zs b :: crs (zs b) ms, x.length = b.T := fun x hx => by
    rcases List.mem_cons.mp hx with rfl | hx
    · exact hz
    · exact crs_lens hz (h.pl W) x hx
  obtain ⟨c1, _⟩ := col ht (gt l t) ms l (zs b) hl hz (h.pl W) (by rw [gt_zs]; omega)
  have e1 : (l :: crs l ms).map (fun x => gt l t - gt x t) = ((zs b :: crs (zs b) ms).map fun x => gt x t).map fun x => -x := by
    have a : (crs l ms).map (fun x => gt l t - gt x t) = ((crs l ms).map fun x => gt x t).map fun y => gt l t - y := by rw [List.map_map]; rfl
    rw [List.map_cons, List.map_cons, List.map_cons, a, c1, List.map_map, List.map_map]
    congr 1
    · rw [gt_zs]; omega
    · refine List.map_congr_left fun x _ => ?_
      show gt l t - (gt l t + gt x t) = -gt x t
      omega
  rw [e1, maxneg]
  have e2 : gt (needs b ms) t = -(gt ((zs b :: crs (zs b) ms).foldl (List.zipWith min) (zs b)) t) := by
    have hlen := lows_len hz hcs
    unfold needs
    have a1 : t < ((zs b :: crs (zs b) ms).foldl (List.zipWith min) (zs b)).length := by omega
    simp only [gt, List.getD, List.getElem?_map, List.getElem?_eq_getElem a1, Option.map_some, Option.getD_some]
  rw [e2, low_col ht _ _ hz hcs, gt_zs]
  rfl
theorem okI_eL (l : Lv) : okI (eL l) = true := by
  show okIs (l.map D.int) = true
  exact okIs_all.mpr fun x hx => by
    obtain ⟨y, _, rfl⟩ := List.mem_map.mp hx
    rfl
theorem nds_int : ∀ l : Lv, nds (l.map D.int) = l.length
  | [] => rfl
  | x :: l => by simp only [List.map_cons, nds, nd, nds_int l, List.length_cons]; omega
theorem nd_eL (l : Lv) : nd (eL l) = 1 + l.length := by
  show 1 + nds (l.map D.int) = _
  rw [nds_int]
theorem nds_Ls {T : Nat} : ∀ {ls : List Lv}, (∀ x ∈ ls, x.length = T) → nds (ls.map eL) = ls.length * (1 + T)
  | [], _ => by simp [nds]
  | l :: ls, h => by
    simp only [List.map_cons, nds, nd_eL, List.length_cons, nds_Ls (ls := ls) fun x hx => h x (by simp [hx]), h l (by simp), Nat.add_mul]
    omega
theorem told_ok {b : Bk} (W : WB b) {s : Nat} {l : Lv} {ns : List Nat} {ms : List Mv} {s' : Nat} {S : Store} (hl : l.length = b.T) (h : Wk b s ns ms s') (hn : ns.length ≤ 600) (hT2 : b.T ≤ 10) (hd : dry l = false) (hds : ∀ x ∈ crs l ms, dry x = false) :
    f__law_told [eB b, .int s, eL l, eN ns] S = some (.bl true, S) := by
  have hT := W.t2
  have hcl : ∀ x ∈ l :: crs l ms, x.length = b.T := fun x hx => by
    rcases List.mem_cons.mp hx with rfl | hx
    · exact hl
    · exact crs_lens hl (h.pl W) x hx
  have hlen : (l :: crs l ms).length ≤ 601 := by
    rw [List.length_cons, crs_len, h.len]
    omega
  refine call_ev ?_ rfl
  unfold c__law_told
  refine Ev.seq (Ev.set (d := .tup [.lst ((l :: crs l ms).map eL), .int s']) (S' := S) (ρ' := [some (eB b), some (.int s), some (eL l), some (eN ns), some (.lst ((l :: crs l ms).map eL)), some (.int s'), none, none, none, none]) (by simp [sSeq, sSet, sRet, sExpr, sIf, gN, gT, gsCons, gsNil, cVar, cC, cBin, cUn, cNil, cCons, cApp, cB, cTr, cAnd, cOr, cNot, cV, cAndV, cOrV, cNotV, cIf, nD, mkTup, mkLst, mkBox, asQ, asL, negD, addD, subD, cmpD, isND, notND, eqD, neD, eqS, lenD, tupleD, DL.intD, cM, apnd, popM, sPar, sPar3, sNext, sAug, ipD, -List.map_cons, lawCourse_ok W hl h (by omega)]) (by simp [gT, gsCons, gN, gsNil]) ?_)
  refine Ev.seq (Ev.ifF (S' := S) (by
    have e : lenD [eN ns] S = some (.int ns.length, S) := by simp [lenD, eN]
    simp only [cNot, cB, cApp, cCons, cNil, cVar, nD, List.length_cons, List.length_nil, Nat.zero_add, Nat.reduceAdd, if_true, List.getElem?_cons_zero, List.getElem?_cons_succ, check_ok W hl h hn hd hds, e, same_ok (d := .int ns.length) rfl (by simp [nd]), Bool.not_true]) (Ev.next ?_))
  have okc : okI (.tup ((l :: crs l ms).map eL)) = true := okIs_all.mpr fun x hx => by
    obtain ⟨y, _, rfl⟩ := List.mem_map.mp hx
    exact okI_eL y
  have ndc : nd (.tup ((l :: crs l ms).map eL)) < 100000 := by
    show 1 + nds ((l :: crs l ms).map eL) < _
    rw [nds_Ls hcl]
    have : (l :: crs l ms).length * (1 + b.T) ≤ 601 * 11 := Nat.mul_le_mul hlen (by omega)
    omega
  refine Ev.seq (Ev.ifF (S' := S) (by
    have e : tupleD [.lst ((l :: crs l ms).map eL)] S = some (.tup ((l :: crs l ms).map eL), S) := by simp [tupleD, asQ, asL]
    simp only [cNot, cB, cApp, cCons, cNil, cVar, nD, List.length_cons, List.length_nil, Nat.zero_add, Nat.reduceAdd, if_true, List.getElem?_cons_zero, List.getElem?_cons_succ, course_ok W hl h (by omega), e, same_ok okc ndc, Bool.not_true]) (Ev.next ?_))
  obtain ⟨pre, hp⟩ := fin_last l ms
  have hlast : ∀ S0 : Store, ixD (.lst ((l :: crs l ms).map eL)) (.int (-1)) S0 = some (eL (fin l ms), S0) := fun S0 => by
    rw [ix_lst, hp, List.map_append]
    rw [show L2.atI (pre.map eL ++ [fin l ms].map eL) (-1) = some (eL (fin l ms)) from atI_last _ _]
    rfl
  have hfl : (fin l ms).length = b.T := fin_len hl (h.pl W)
  have hzl : (fin (zs b) ms).length = b.T := fin_len (by simp) (h.pl W)
  have hc1 := cLC_map (S := S) (ρ := [some (eB b), some (.int s), some (eL l), some (eN ns), some (.lst ((l :: crs l ms).map eL)), some (.int s'), none, none, none, none]) (vs := [8]) (ci := cRng1 (cBin ixD (cVar 0) (cC (.int 0)))) (g := gN 8) (e := cBin subD (cBin ixD (cBin ixD (cVar 4) (cUn negD (cC (.int 1)))) (cVar 8)) (cBin ixD (cVar 2) (cVar 8)))
    (l := List.range b.T) (fun i => D.int (i : Nat)) (fun t => .int (gt (fin l ms) t - gt l t)) (rng1 (n := b.T) (by simp [sSeq, sSet, sRet, sExpr, sIf, gN, gT, gsCons, gsNil, cVar, cC, cBin, cUn, cNil, cCons, cApp, cB, cTr, cAnd, cOr, cNot, cV, cAndV, cOrV, cNotV, cIf, nD, mkTup, mkLst, mkBox, asQ, asL, negD, addD, subD, cmpD, isND, notND, eqD, neD, eqS, lenD, tupleD, DL.intD, cM, apnd, popM, sPar, sPar3, sNext, sAug, ipD, ixB0]) (by omega)) rfl (small (by simp; omega))
    (fun q hq => ⟨_, rfl, by
      have h1 := List.mem_range.mp hq
      simp [sSeq, sSet, sRet, sExpr, sIf, gN, gT, gsCons, gsNil, cVar, cC, cBin, cUn, cNil, cCons, cApp, cB, cTr, cAnd, cOr, cNot, cV, cAndV, cOrV, cNotV, cIf, nD, mkTup, mkLst, mkBox, asQ, asL, negD, addD, subD, cmpD, isND, notND, eqD, neD, eqS, lenD, tupleD, DL.intD, cM, apnd, popM, sPar, sPar3, sNext, sAug, ipD, wipeD, -List.map_cons, hlast, ixL (l := fin l ms) (t := q) (by omega), ixL (l := l) (t := q) (by omega)]⟩)
  rw [ext_map hzl (fun t ht => by
    have := (col ht (gt l t) ms l (zs b) hl (by simp) (h.pl W) (by rw [gt_zs]; omega)).2
    omega)] at hc1
  refine Ev.seq (Ev.setN (d := eL (fin (zs b) ms)) (S' := S) (by simp only [cApp, cCons, cNil, hc1, tupleD, asQ, asL]; rfl) ?_)
  simp only [List.set_cons_zero, List.set_cons_succ]
  have hc2 := cLC_map (S := S) (ρ := [some (eB b), some (.int s), some (eL l), some (eN ns), some (.lst ((l :: crs l ms).map eL)), some (.int s'), some (eL (fin (zs b) ms)), none, none, none]) (vs := [8]) (ci := cRng1 (cBin ixD (cVar 0) (cC (.int 0)))) (g := gN 8)
    (e := cApp max2D (cCons (cBin addD (cApp mkLst (cCons (cC (.int 0)) cNil)) (cLC [9] false (cItS (cVar 4)) (lt1 (gN 9) tYesD (cBin subD (cBin ixD (cVar 2) (cVar 8)) (cBin ixD (cVar 9) (cVar 8)))))) cNil))
    (l := List.range b.T) (fun i => D.int (i : Nat)) (fun t => .int (maxL (0 :: (l :: crs l ms).map fun x => gt l t - gt x t))) (rng1 (n := b.T) (by simp [sSeq, sSet, sRet, sExpr, sIf, gN, gT, gsCons, gsNil, cVar, cC, cBin, cUn, cNil, cCons, cApp, cB, cTr, cAnd, cOr, cNot, cV, cAndV, cOrV, cNotV, cIf, nD, mkTup, mkLst, mkBox, asQ, asL, negD, addD, subD, cmpD, isND, notND, eqD, neD, eqS, lenD, tupleD, DL.intD, cM, apnd, popM, sPar, sPar3, sNext, sAug, ipD, ixB0]) (by omega)) rfl (small (by simp; omega))
    (fun q hq => ⟨_, rfl, by
      have h1 := List.mem_range.mp hq
      have hc3 := cLC_map (S := S) (ρ := [some (eB b), some (.int s), some (eL l), some (eN ns), some (.lst ((l :: crs l ms).map eL)), some (.int s'), some (eL (fin (zs b) ms)), none, some (.int q), none]) (vs := [9]) (ci := cItS (cVar 4)) (g := gN 9) (e := cBin subD (cBin ixD (cVar 2) (cVar 8)) (cBin ixD (cVar 9) (cVar 8)))
        (l := l :: crs l ms) eL (fun x => .int (gt l q - gt x q)) (by simp only [cItS, cVar, List.getElem?_cons_zero, List.getElem?_cons_succ, itSeq, Option.map_some]) rfl (small (by omega))
        (fun x hx => ⟨_, rfl, by simp [sSeq, sSet, sRet, sExpr, sIf, gN, gT, gsCons, gsNil, cVar, cC, cBin, cUn, cNil, cCons, cApp, cB, cTr, cAnd, cOr, cNot, cV, cAndV, cOrV, cNotV, cIf, nD, mkTup, mkLst, mkBox, asQ, asL, negD, addD, subD, cmpD, isND, notND, eqD, neD, eqS, lenD, tupleD, DL.intD, cM, apnd, popM, sPar, sPar3, sNext, sAug, ipD, wipeD, ixL (l := l) (t := q) (by omega), ixL (l := x) (t := q) (by rw [hcl x hx]; omega)]⟩)
      have z1 : (1 : Nat) ≤ sizeLine := by rw [sizeLine_eq]; omega
      have z3 : 1 + (l :: crs l ms).length ≤ sizeLine := by rw [sizeLine_eq]; omega
      have ea : asInts (D.int 0 :: (l :: crs l ms).map fun x => D.int (gt l q - gt x q)) = some (0 :: (l :: crs l ms).map fun x => gt l q - gt x q) := by
        show (asInts _).map (0 :: ·) = _
        rw [asInts_map]
        rfl
      have eb : addD (.lst [.int 0]) (.lst ((l :: crs l ms).map fun x => D.int (gt l q - gt x q))) S = some (.lst (D.int 0 :: (l :: crs l ms).map fun x => D.int (gt l q - gt x q)), S) := by
        simp only [addD, asL, List.length_cons, List.length_nil, List.length_map] at z3 ⊢
        rw [if_pos (by omega)]
        rfl
      have ed : max2D [.lst (D.int 0 :: (l :: crs l ms).map fun x => D.int (gt l q - gt x q))] S = some (.int (maxL (0 :: (l :: crs l ms).map fun x => gt l q - gt x q)), S) := by
        simp only [max2D, asQ, asL, ea]
        rw [if_neg (by simp)]
      simp only [wipeD, List.set_cons_zero, List.set_cons_succ, cApp, cCons, cNil, cBin, cC, mkLst, List.length_cons, List.length_nil, Nat.zero_add, z1, if_true] at hc3 ⊢
      simp only [hc3, eb, ed]⟩)
  rw [ext_map (needs_len W h) (fun t ht => needs_at W hl h ht)] at hc2
  refine Ev.seq (Ev.setN (d := eL (needs b ms)) (S' := S) (by simp only [cApp, cCons, cNil, hc2, tupleD, asQ, asL]; rfl) ?_)
  simp only [List.set_cons_zero, List.set_cons_succ]
  refine Ev.seq (Ev.ifF (S' := S) (by
    simp only [cNot, cB, cApp, cCons, cNil, cVar, nD, List.length_cons, List.length_nil, Nat.zero_add, Nat.reduceAdd, if_true, List.getElem?_cons_zero, List.getElem?_cons_succ, pourSum_ok W h (by omega), same_ok (okI_eL (fin (zs b) ms)) (by rw [nd_eL]; omega), Bool.not_true]) (Ev.next ?_))
  refine Ev.ret (d := .bl true) (S' := S) ?_ ⟨[], by simp⟩
  simp only [cApp, cCons, cNil, cVar, nD, List.length_cons, List.length_nil, Nat.zero_add, Nat.reduceAdd, if_true, List.getElem?_cons_zero, List.getElem?_cons_succ, needed_ok W h (by omega), same_ok (okI_eL (needs b ms)) (by rw [nd_eL, needs_len W h]; omega)]
end K88

namespace K88
open PySem PySem.Spec PyProof.Rows L2 DL

def eG : Option Nat → D
  | none => .non
  | some g => .int (g : Nat)
def gok : Option Nat → Nat → Bool
  | none, _ => true
  | some g, s => decide (s = g)
theorem right_none {b g wt s l : D} {S : Store} : f__law_right [b, s, l, g, wt, .non, .non] S = some (.bl true, S) := by
  refine call_ev ?_ rfl
  unfold c__law_right
  exact Ev.seq (Ev.ifT (S' := S) (by simp [sSeq, sSet, sRet, sExpr, sIf, gN, gT, gsCons, gsNil, cVar, cC, cBin, cUn, cNil, cCons, cApp, cB, cTr, cAnd, cOr, cNot, cV, cAndV, cOrV, cNotV, cIf, nD, mkTup, mkLst, mkBox, asQ, asL, negD, addD, subD, cmpD, isND, notND, eqD, neD, eqS, lenD, tupleD, DL.intD, cM, apnd, popM, sPar, sPar3, sNext, sAug, ipD]) (Ev.ret (d := .bl true) (S' := S) (by simp [sSeq, sSet, sRet, sExpr, sIf, gN, gT, gsCons, gsNil, cVar, cC, cBin, cUn, cNil, cCons, cApp, cB, cTr, cAnd, cOr, cNot, cV, cAndV, cOrV, cNotV, cIf, nD, mkTup, mkLst, mkBox, asQ, asL, negD, addD, subD, cmpD, isND, notND, eqD, neD, eqS, lenD, tupleD, DL.intD, cM, apnd, popM, sPar, sPar3, sNext, sAug, ipD]) ⟨[], by simp⟩))
theorem asInts_eL (x : Lv) : asInts (x.map D.int) = some x := by
  have := asInts_map (fun y : Int => y) x
  rwa [List.map_id'] at this
theorem minL_ok {x : Lv} (h : dry x = false) (hne : x ≠ []) : ¬ minL x < 0 := by
  have h1 := (minL_spec hne).1
  unfold dry at h
  rw [List.any_eq_false] at h
  simpa using h _ h1
theorem min_eL {x : Lv} (hne : x ≠ []) {S : Store} : min2D [eL x] S = some (.int (minL x), S) := by
  show (match asInts (x.map D.int) with
    | some ns => if ns = [] then none else some (D.int (minL ns), S)
    | none => none) = some (D.int (minL x), S)
  rw [asInts_eL]
  simp [hne]
theorem ne_of_len {T : Nat} {x : Lv} (h : x.length = T) (hT : 1 ≤ T) : x ≠ [] := by
  rintro rfl
  simp at h
  omega
theorem right_some {b : Bk} (W : WB b) {s : Nat} {l wt : Lv} {g : Option Nat} {ns : List Nat} {ms : List Mv} {s' : Nat} {S : Store} (hl : l.length = b.T) (hw : wt.length = b.T) (h : Wk b s ns ms s') (hn : ns.length ≤ 1000) (hd : dry l = false) (hds : ∀ x ∈ crs l ms, dry x = false) (hg : gok g s' = true) (hwt : geB (fin l ms) wt = true) :
    f__law_right [eB b, .int s, eL l, eG g, eL wt, eN ns, .int ns.length] S = some (.bl true, S) := by
  have hT := W.t2
  have hcl : ∀ x ∈ l :: crs l ms, x.length = b.T ∧ dry x = false := fun x hx => by
    rcases List.mem_cons.mp hx with rfl | hx
    · exact ⟨hl, hd⟩
    · exact ⟨crs_lens hl (h.pl W) x hx, hds x hx⟩
  have hlen : (l :: crs l ms).length ≤ 1001 := by
    rw [List.length_cons, crs_len, h.len]
    omega
  obtain ⟨pre, hp⟩ := fin_last l ms
  have hlast : ∀ S0 : Store, ixD (.lst ((l :: crs l ms).map eL)) (.int (-1)) S0 = some (eL (fin l ms), S0) := fun S0 => by
    rw [ix_lst, hp, List.map_append]
    rw [show L2.atI (pre.map eL ++ [fin l ms].map eL) (-1) = some (eL (fin l ms)) from atI_last _ _]
    rfl
  refine call_ev ?_ rfl
  unfold c__law_right
  refine Ev.seq (Ev.ifF (S' := S) (by simp [sSeq, sSet, sRet, sExpr, sIf, gN, gT, gsCons, gsNil, cVar, cC, cBin, cUn, cNil, cCons, cApp, cB, cTr, cAnd, cOr, cNot, cV, cAndV, cOrV, cNotV, cIf, nD, mkTup, mkLst, mkBox, asQ, asL, negD, addD, subD, cmpD, isND, notND, eqD, neD, eqS, lenD, tupleD, DL.intD, cM, apnd, popM, sPar, sPar3, sNext, sAug, ipD, eN]) (Ev.next ?_))
  refine Ev.seq (Ev.ifF (S' := S) (by simp [sSeq, sSet, sRet, sExpr, sIf, gN, gT, gsCons, gsNil, cVar, cC, cBin, cUn, cNil, cCons, cApp, cB, cTr, cAnd, cOr, cNot, cV, cAndV, cOrV, cNotV, cIf, nD, mkTup, mkLst, mkBox, asQ, asL, negD, addD, subD, cmpD, isND, notND, eqD, neD, eqS, lenD, tupleD, DL.intD, cM, apnd, popM, sPar, sPar3, sNext, sAug, ipD, eN, cUn, isiD, tyD, k_tt]) (Ev.next ?_))
  have hf0 : ∀ S0 : Store, ixD (.tup [.lst ((l :: crs l ms).map eL), .int s']) (.int 0) S0 = some (.lst ((l :: crs l ms).map eL), S0) := fun _ => rfl
  have hf1 : ∀ S0 : Store, ixD (.tup [.lst ((l :: crs l ms).map eL), .int s']) (.int 1) S0 = some (.int s', S0) := fun _ => rfl
  refine Ev.seq (Ev.setN (d := .tup [.lst ((l :: crs l ms).map eL), .int s']) (S' := S) (by simp [sSeq, sSet, sRet, sExpr, sIf, gN, gT, gsCons, gsNil, cVar, cC, cBin, cUn, cNil, cCons, cApp, cB, cTr, cAnd, cOr, cNot, cV, cAndV, cOrV, cNotV, cIf, nD, mkTup, mkLst, mkBox, asQ, asL, negD, addD, subD, cmpD, isND, notND, eqD, neD, eqS, lenD, tupleD, DL.intD, cM, apnd, popM, sPar, sPar3, sNext, sAug, ipD, -List.map_cons, lawCourse_ok W hl h (by omega)]) ?_)
  simp only [List.map_cons, List.map_nil, List.length_cons, List.length_nil, Nat.zero_add, Nat.reduceAdd, Nat.reduceSub, List.replicate, List.cons_append, List.nil_append, List.set_cons_zero, List.set_cons_succ]
  rw [← List.map_cons]
  have hc := cLC_fm (S := S) (ρ := [some (eB b), some (.int s), some (eL l), some (eG g), some (eL wt), some (eN ns), some (.int ns.length), some (.tup [.lst ((l :: crs l ms).map eL), .int s']), none]) (vs := [8]) (ci := cItS (cBin ixD (cVar 7) (cC (.int 0)))) (g := gN 8) (t := cB (cBin ltD (cApp min2D (cCons (cVar 8) cNil)) (cC (.int 0)))) (e := cVar 8)
    (l := l :: crs l ms) eL (fun x => decide (minL x < 0)) eL (by simp only [cItS, cBin, cC, cVar, List.getElem?_cons_zero, List.getElem?_cons_succ, hf0, itSeq, Option.map_some]) rfl (small (by omega))
    (fun x hx => ⟨_, rfl, by simp [sSeq, sSet, sRet, sExpr, sIf, gN, gT, gsCons, gsNil, cVar, cC, cBin, cUn, cNil, cCons, cApp, cB, cTr, cAnd, cOr, cNot, cV, cAndV, cOrV, cNotV, cIf, nD, mkTup, mkLst, mkBox, asQ, asL, negD, addD, subD, cmpD, isND, notND, eqD, neD, eqS, lenD, tupleD, DL.intD, cM, apnd, popM, sPar, sPar3, sNext, sAug, ipD, wipeD, min_eL (ne_of_len (hcl x hx).1 W.t1)], fun _ => by simp [sSeq, sSet, sRet, sExpr, sIf, gN, gT, gsCons, gsNil, cVar, cC, cBin, cUn, cNil, cCons, cApp, cB, cTr, cAnd, cOr, cNot, cV, cAndV, cOrV, cNotV, cIf, nD, mkTup, mkLst, mkBox, asQ, asL, negD, addD, subD, cmpD, isND, notND, eqD, neD, eqS, lenD, tupleD, DL.intD, cM, apnd, popM, sPar, sPar3, sNext, sAug, ipD, wipeD]⟩)
  have hfil : (l :: crs l ms).filter (fun x => decide (minL x < 0)) = [] := List.filter_eq_nil_iff.mpr fun x hx => by
    have := minL_ok (hcl x hx).2 (ne_of_len (hcl x hx).1 W.t1)
    simpa using this
  rw [hfil] at hc
  refine Ev.seq (Ev.ifF (S' := S) (by
    simp only [cOr, cB, cBin, cVar, cC, isND, cApp, cCons, cNil, List.getElem?_cons_zero, List.getElem?_cons_succ] at hc ⊢
    simp only [hc]
    simp [lenD, asQ, asL, cmpD]) (Ev.next ?_))
  refine Ev.ret (d := .bl true) (S' := S) ?_ ⟨[], by simp⟩
  have hlw := least_ok (S := S) (a := fin l ms) (c := wt) (by rw [fin_len hl (h.pl W), hw]) (by rw [fin_len hl (h.pl W)]; omega)
  rw [hwt] at hlw
  cases g with
  | none =>
    simp only [cAndV, cOrV, cBin, cVar, cC, cUn, negD, isND, eG, cApp, cCons, cNil, nD, List.length_cons, List.length_nil, Nat.zero_add, Nat.reduceAdd, if_true, List.getElem?_cons_zero, List.getElem?_cons_succ, hf0, hlast, hlw]
  | some g =>
    have e : s' = g := by simpa [gok] using hg
    subst e
    simp only [cAndV, cOrV, cBin, cVar, cC, cUn, negD, isND, eG, eqD, eqS, Option.map_some, decide_true, cApp, cCons, cNil, nD, List.length_cons, List.length_nil, Nat.zero_add, Nat.reduceAdd, if_true, List.getElem?_cons_zero, List.getElem?_cons_succ, hf0, hf1, hlast, hlw]
end K88

namespace K88
open PySem PySem.Spec PyProof.Rows L2 DL

/-! the breadth-first search, as a plain function, and what it finds -/
abbrev Came := List (Place × Option (Place × Nat))
def keys (c : Came) : List Place := c.map (·.1)
def clook (c : Came) (p : Place) : Option (Option (Place × Nat)) := (c.find? fun x => decide (x.1 = p)).map (·.2)
theorem clook_none {c : Came} {p : Place} : clook c p = none ↔ p ∉ keys c := by
  unfold clook keys
  rw [Option.map_eq_none_iff, List.find?_eq_none]
  simp only [decide_eq_true_eq, List.mem_map, not_exists, not_and]
theorem clook_app {c d : Came} {p : Place} {v : Option (Place × Nat)} (h : clook c p = some v) : clook (c ++ d) p = some v := by
  unfold clook at h ⊢
  rw [List.find?_append]
  obtain ⟨x, hx, rfl⟩ := Option.map_eq_some_iff.mp h
  rw [hx]
  rfl
theorem clook_new {c : Came} {p : Place} {v : Option (Place × Nat)} (h : p ∉ keys c) : clook (c ++ [(p, v)]) p = some v := by
  have h0 := clook_none.mpr h
  unfold clook at h0 ⊢
  rw [Option.map_eq_none_iff] at h0
  rw [List.find?_append, h0]
  simp
/-- reached by so many moves, over levels that are not dry -/
inductive R (b : Bk) (st : Place) : Nat → Place → Prop
  | zero : R b st 0 st
  | succ {k : Nat} {y : Place} {n : Nat} {m : Mv} : R b st k y → (mvs b y.1)[n]? = some m → dry (add y.2 m.p) = false → R b st (k + 1) (m.to, add y.2 m.p)
inductive Pth (b : Bk) (st : Place) (c : Came) : Place → List Nat → List Mv → Prop
  | base : clook c st = some none → Pth b st c st [] []
  | step {q : Place} {n : Nat} {m : Mv} {ns : List Nat} {ms : List Mv} : clook c (m.to, add q.2 m.p) = some (some (q, n)) → (mvs b q.1)[n]? = some m → dry (add q.2 m.p) = false → Pth b st c q ns ms → Pth b st c (m.to, add q.2 m.p) (ns ++ [n]) (ms ++ [m])
theorem Wk.snoc {b : Bk} {s : Nat} {ns : List Nat} {ms : List Mv} {s' n : Nat} {m : Mv} (h : Wk b s ns ms s') (hm : (mvs b s')[n]? = some m) : Wk b s (ns ++ [n]) (ms ++ [m]) m.to := by
  induction h with
  | nil s => exact .cons hm (.nil _)
  | cons e _ ih => exact .cons e (ih hm)
theorem fin_snoc : ∀ (l : Lv) (ms : List Mv) (m : Mv), fin l (ms ++ [m]) = add (fin l ms) m.p
  | _, [], _ => rfl
  | l, x :: ms, m => fin_snoc (add l x.p) ms m
theorem crs_snoc : ∀ (l : Lv) (ms : List Mv) (m : Mv), crs l (ms ++ [m]) = crs l ms ++ [add (fin l ms) m.p]
  | _, [], _ => rfl
  | l, x :: ms, m => by simp only [List.cons_append, crs, fin, crs_snoc (add l x.p) ms m]
theorem Pth.wk {b : Bk} {st : Place} {c : Came} {p : Place} {ns : List Nat} {ms : List Mv} (h : Pth b st c p ns ms) : Wk b st.1 ns ms p.1 ∧ fin st.2 ms = p.2 ∧ ∀ y ∈ crs st.2 ms, dry y = false := by
  induction h with
  | base _ => exact ⟨.nil _, rfl, by simp [crs]⟩
  | @step q n m ns ms _ hm hd _ ih =>
    obtain ⟨i1, i2, i3⟩ := ih
    refine ⟨i1.snoc hm, by rw [fin_snoc, i2], fun y hy => ?_⟩
    rw [crs_snoc, i2] at hy
    rcases List.mem_append.mp hy with hy | hy
    · exact i3 y hy
    · rw [List.mem_singleton.mp hy]; exact hd
theorem Pth.app {b : Bk} {st : Place} {c d : Came} {p : Place} {ns : List Nat} {ms : List Mv} (h : Pth b st c p ns ms) : Pth b st (c ++ d) p ns ms := by
  induction h with
  | base e => exact .base (clook_app e)
  | step e hm hd _ ih => exact .step (clook_app e) hm hd ih
theorem Pth.r {b : Bk} {st : Place} {c : Came} {p : Place} {ns : List Nat} {ms : List Mv} (h : Pth b st c p ns ms) : R b st ns.length p := by
  induction h with
  | base _ => exact .zero
  | step _ hm hd _ ih =>
    rw [List.length_append, List.length_singleton]
    exact .succ ih hm hd
/-- one move looked at -/
def stp (pl : Place) (n : Nat) (m : Mv) (st : Came × List Place) : Came × List Place :=
  if dry (add pl.2 m.p) = false ∧ clook st.1 (m.to, add pl.2 m.p) = none then (st.1 ++ [((m.to, add pl.2 m.p), some (pl, n))], st.2 ++ [(m.to, add pl.2 m.p)]) else st
def stpM (b : Bk) (pl : Place) (st : Came × List Place) : Came × List Place := ((mvs b pl.1).zipIdx).foldl (fun st x => stp pl x.2 x.1 st) st
def layr (b : Bk) (layer : List Place) (c : Came) : Came × List Place := layer.foldl (fun st pl => stpM b pl st) (c, [])
theorem foldl_inv {α β : Type} {f : β → α → β} (P : β → Prop) : ∀ (xs : List α) (s : β), P s → (∀ x ∈ xs, ∀ s, P s → P (f s x)) → P (xs.foldl f s)
  | [], _, h, _ => h
  | x :: xs, s, h, hs => foldl_inv P xs (f s x) (hs x (by simp) s h) fun y hy => hs y (by simp [hy])
theorem foldl_done {α β : Type} {f : β → α → β} (Q : α → β → Prop) : ∀ (xs : List α) (s : β), (∀ x ∈ xs, ∀ s, Q x (f s x)) → (∀ x y s, Q x s → Q x (f s y)) → ∀ x ∈ xs, Q x (xs.foldl f s)
  | [], _, _, _ => by simp
  | y :: ys, s, h1, h2 => by
    intro x hx
    rcases List.mem_cons.mp hx with rfl | hx
    · exact foldl_inv (Q x) ys (f s x) (h1 x (by simp) s) fun z _ s h => h2 x z s h
    · exact foldl_done Q ys (f s y) (fun z hz => h1 z (by simp [hz])) h2 x hx
/-- what a layer's making keeps -/
structure LI (b : Bk) (c0 : Came) (layer : List Place) (st : Came × List Place) : Prop where
  app : ∃ d, st.1 = c0 ++ d ∧ keys d = st.2
  nd : (keys st.1).Nodup
  from_ : ∀ p ∈ st.2, ∃ q n m, q ∈ layer ∧ (mvs b q.1)[n]? = some m ∧ p = (m.to, add q.2 m.p) ∧ dry (add q.2 m.p) = false ∧ clook st.1 p = some (some (q, n))
theorem keys_app (c d : Came) : keys (c ++ d) = keys c ++ keys d := List.map_append
theorem LI.stp {b : Bk} {c0 : Came} {layer : List Place} {st : Came × List Place} (h : LI b c0 layer st) {q : Place} {n : Nat} {m : Mv} (hq : q ∈ layer) (hm : (mvs b q.1)[n]? = some m) : LI b c0 layer (stp q n m st) := by
  unfold K88.stp
  split
  · rename_i hc
    obtain ⟨hd, hn⟩ := hc
    have hk := clook_none.mp hn
    obtain ⟨d, e1, e2⟩ := h.app
    refine ⟨⟨d ++ [((m.to, add q.2 m.p), some (q, n))], by rw [e1, List.append_assoc], by rw [keys_app, e2]; rfl⟩, ?_, fun p hp => ?_⟩
    · show (keys (st.1 ++ [_])).Nodup
      rw [keys_app, List.nodup_append]
      refine ⟨h.nd, by simp [keys], fun x hx y hy => ?_⟩
      have : y = (m.to, add q.2 m.p) := by simpa [keys] using hy
      rintro rfl
      rw [this] at hx
      exact hk hx
    · rcases List.mem_append.mp hp with hp | hp
      · obtain ⟨q', n', m', a1, a2, a3, a4, a5⟩ := h.from_ p hp
        exact ⟨q', n', m', a1, a2, a3, a4, clook_app a5⟩
      · rw [List.mem_singleton.mp hp]
        exact ⟨q, n, m, hq, hm, rfl, hd, clook_new hk⟩
  · exact h
theorem zip_mem {α : Type} {l : List α} {x : α × Nat} (h : x ∈ l.zipIdx) : l[x.2]? = some x.1 := by
  obtain ⟨i, hi⟩ := List.mem_iff_getElem?.mp h
  rw [List.getElem?_zipIdx] at hi
  obtain ⟨y, h1, h2⟩ := Option.map_eq_some_iff.mp hi
  subst h2
  simpa using h1
theorem mem_zip {α : Type} {l : List α} {n : Nat} {x : α} (h : l[n]? = some x) : (x, n) ∈ l.zipIdx := by
  refine List.mem_iff_getElem?.mpr ⟨n, ?_⟩
  rw [List.getElem?_zipIdx, h]
  simp
theorem layr_li {b : Bk} {layer : List Place} {c : Came} (h : (keys c).Nodup) : LI b c layer (layr b layer c) := by
  refine foldl_inv (LI b c layer) layer (c, []) ⟨⟨[], by simp, rfl⟩, h, by simp⟩ fun q hq st hst => ?_
  exact foldl_inv (LI b c layer) _ st hst fun x hx s hs => hs.stp hq (zip_mem hx)
/-- the keys only grow -/
theorem stp_keys {pl : Place} {n : Nat} {m : Mv} {st : Came × List Place} {x : Place} (h : x ∈ keys st.1) : x ∈ keys (stp pl n m st).1 := by
  unfold stp
  split
  · show x ∈ keys (st.1 ++ _)
    rw [keys_app]
    exact List.mem_append_left _ h
  · exact h
theorem stpM_keys {b : Bk} {pl : Place} {st : Came × List Place} {x : Place} (h : x ∈ keys st.1) : x ∈ keys (stpM b pl st).1 :=
  foldl_inv (fun s : Came × List Place => x ∈ keys s.1) _ st h fun _ _ _ hs => stp_keys hs
theorem layr_all {b : Bk} {layer : List Place} {c : Came} {q : Place} (hq : q ∈ layer) {n : Nat} {m : Mv} (hm : (mvs b q.1)[n]? = some m) (hd : dry (add q.2 m.p) = false) : (m.to, add q.2 m.p) ∈ keys (layr b layer c).1 := by
  have := foldl_done (f := fun st pl => stpM b pl st) (fun (q : Place) (s : Came × List Place) => ∀ (n : Nat) (m : Mv), (mvs b q.1)[n]? = some m → dry (add q.2 m.p) = false → (m.to, add q.2 m.p) ∈ keys s.1) layer (c, [])
    (fun q _ s n m hm hd => by
      have := foldl_done (f := fun st (x : Mv × Nat) => stp q x.2 x.1 st) (fun (x : Mv × Nat) (s : Came × List Place) => dry (add q.2 x.1.p) = false → (x.1.to, add q.2 x.1.p) ∈ keys s.1) ((mvs b q.1).zipIdx) s
        (fun x _ s hd => by
          show (x.1.to, add q.2 x.1.p) ∈ keys (stp q x.2 x.1 s).1
          unfold stp
          split
          · show _ ∈ keys (s.1 ++ _)
            rw [keys_app]
            exact List.mem_append_right _ (by simp [keys])
          · rename_i hc
            exact Classical.byContradiction fun z => hc ⟨hd, clook_none.mpr z⟩)
        (fun x y s h hd => stp_keys (h hd)) (m, n) (mem_zip hm)
      exact this hd)
    (fun x y s h n m hm hd => stpM_keys (h n m hm hd)) q hq
  exact this n m hm hd
/-- where the search stands before round k -/
structure BI (b : Bk) (st : Place) (tgt : Place → Bool) (k : Nat) (c : Came) (layer : List Place) : Prop where
  lay : ∀ p ∈ layer, ∃ ns ms, ns.length = k ∧ Pth b st c p ns ms
  key : ∀ p ∈ keys c, ∃ n, n ≤ k ∧ R b st n p
  all : ∀ n x, n ≤ k → R b st n x → x ∈ keys c
  new : ∀ n x, n < k → R b st n x → x ∉ layer
  nd : (keys c).Nodup
  root : clook c st = some none
  old : ∀ x ∈ keys c, x ∉ layer → tgt x = false ∧ ∀ (n : Nat) (m : Mv), (mvs b x.1)[n]? = some m → dry (add x.2 m.p) = false → (m.to, add x.2 m.p) ∈ keys c
theorem bi_start {b : Bk} {st : Place} {tgt : Place → Bool} : BI b st tgt 0 [(st, none)] [st] := by
  have hk : keys [(st, (none : Option (Place × Nat)))] = [st] := rfl
  refine ⟨fun p hp => ?_, fun p hp => ?_, fun n x hn hr => ?_, fun n x hn => by omega, by rw [hk]; simp, by simp [clook], fun x hx hn => ?_⟩
  · rw [List.mem_singleton.mp hp]
    exact ⟨[], [], rfl, .base (by simp [clook])⟩
  · rw [hk] at hp
    rw [List.mem_singleton.mp hp]
    exact ⟨0, Nat.le_refl _, .zero⟩
  · have : n = 0 := by omega
    subst this
    cases hr
    rw [hk]
    simp
  · rw [hk] at hx
    exact absurd hx hn
theorem mem_keys_of {c : Came} {p : Place} {v : Option (Place × Nat)} (h : clook c p = some v) : p ∈ keys c := Classical.byContradiction fun z => by
  rw [clook_none.mpr z] at h
  cases h
theorem Pth.key {b : Bk} {st : Place} {c : Came} {p : Place} {ns : List Nat} {ms : List Mv} (h : Pth b st c p ns ms) : p ∈ keys c := by
  cases h with
  | base e => exact mem_keys_of e
  | step e _ _ _ => exact mem_keys_of e
theorem bi_step {b : Bk} {st : Place} {tgt : Place → Bool} {k : Nat} {c : Came} {layer : List Place} (h : BI b st tgt k c layer) (hn : ∀ p ∈ layer, tgt p = false) : BI b st tgt (k + 1) (layr b layer c).1 (layr b layer c).2 := by
  have L := layr_li (b := b) (layer := layer) h.nd
  obtain ⟨d, e1, e2⟩ := L.app
  have hk : keys (layr b layer c).1 = keys c ++ (layr b layer c).2 := by rw [e1, keys_app, e2]
  have hdis : ∀ x ∈ keys c, x ∉ (layr b layer c).2 := fun x hx hy => by
    have := L.nd
    rw [hk, List.nodup_append] at this
    exact this.2.2 x hx x hy rfl
  refine ⟨fun p hp => ?_, fun p hp => ?_, fun n x hnk hr => ?_, fun n x hnk hr => ?_, L.nd, by rw [e1]; exact clook_app h.root, fun x hx hxn => ?_⟩
  · obtain ⟨q, n, m, a1, a2, a3, a4, a5⟩ := L.from_ p hp
    obtain ⟨ns, ms, hl, hp'⟩ := h.lay q a1
    subst a3
    refine ⟨ns ++ [n], ms ++ [m], by simp [hl], .step a5 a2 a4 ?_⟩
    rw [e1]
    exact hp'.app
  · rw [hk] at hp
    rcases List.mem_append.mp hp with hp | hp
    · obtain ⟨n, h1, h2⟩ := h.key p hp
      exact ⟨n, by omega, h2⟩
    · obtain ⟨q, n, m, a1, a2, a3, a4, a5⟩ := L.from_ p hp
      obtain ⟨ns, ms, hl, hp'⟩ := h.lay q a1
      subst a3
      refine ⟨k + 1, Nat.le_refl _, .succ ?_ a2 a4⟩
      rw [← hl]
      exact hp'.r
  · by_cases hle : n ≤ k
    · rw [hk]
      exact List.mem_append_left _ (h.all n x hle hr)
    · have : n = k + 1 := by omega
      subst this
      cases hr with
      | @succ _ y i m hr hm hd =>
        have hy := h.all k y (Nat.le_refl _) hr
        by_cases hyl : y ∈ layer
        · exact layr_all hyl hm hd
        · rw [hk]
          exact List.mem_append_left _ ((h.old y hy hyl).2 i m hm hd)
  · exact hdis x (h.all n x (by omega) hr)
  · rw [hk] at hx
    rcases List.mem_append.mp hx with hx | hx
    · by_cases hxl : x ∈ layer
      · exact ⟨hn x hxl, fun n m hm hd => layr_all hxl hm hd⟩
      · obtain ⟨o1, o2⟩ := h.old x hx hxl
        refine ⟨o1, fun n m hm hd => ?_⟩
        rw [hk]
        exact List.mem_append_left _ (o2 n m hm hd)
    · exact absurd hx hxn
theorem nodup_le {α : Type} [DecidableEq α] : ∀ (l U : List α), l.Nodup → (∀ x ∈ l, x ∈ U) → l.length ≤ U.length
  | [], _, _, _ => by simp
  | x :: l, U, hn, hs => by
    rw [List.nodup_cons] at hn
    have hx := hs x (by simp)
    have := nodup_le l (U.erase x) hn.2 fun y hy => by
      have hne : y ≠ x := fun e => hn.1 (e ▸ hy)
      exact (List.mem_erase_of_ne hne).mpr (hs y (by simp [hy]))
    rw [List.length_erase_of_mem hx] at this
    have := List.length_pos_of_mem hx
    simp only [List.length_cons]
    omega
end K88

namespace K88
open PySem PySem.Spec PyProof.Rows L2 DL

def eV : Option (Place × Nat) → D
  | none => .non
  | some (q, n) => .tup [eP q, .int (n : Nat)]
def eC (c : Came) : List (D × D) := c.map fun x => (eP x.1, eV x.2)
theorem keyDs_int : ∀ l : Lv, keyDs (l.map D.int) = l.map NestedKey.num
  | [] => rfl
  | x :: l => by simp only [List.map_cons, keyDs, keyD, keyDs_int l]
theorem keyD_eL (l : Lv) : keyD (eL l) = .tup (l.map NestedKey.num) := by
  show NestedKey.tup (keyDs (l.map D.int)) = _
  rw [keyDs_int]
theorem keyD_eP (p : Place) : keyD (eP p) = .tup [.num p.1, .tup (p.2.map NestedKey.num)] := by
  simp only [eP, keyD, keyDs, keyD_eL]
theorem num_inj : ∀ {a c : Lv}, a.map NestedKey.num = c.map NestedKey.num → a = c
  | [], [], _ => rfl
  | [], _ :: _, h => by simp at h
  | _ :: _, [], h => by simp at h
  | x :: a, y :: c, h => by
    simp only [List.map_cons, List.cons.injEq, NestedKey.num.injEq] at h
    rw [h.1, num_inj h.2]
theorem keyP_inj {p q : Place} : keyD (eP p) = keyD (eP q) ↔ p = q := by
  refine ⟨fun h => ?_, fun h => by rw [h]⟩
  rw [keyD_eP, keyD_eP] at h
  simp only [NestedKey.tup.injEq, List.cons.injEq, NestedKey.num.injEq, and_true] at h
  obtain ⟨h1, h2⟩ := h
  have h3 := num_inj h2
  exact Prod.ext (by omega) h3
theorem okKeys_int : ∀ l : Lv, okKeys (l.map D.int) = true
  | [] => rfl
  | x :: l => by simp only [List.map_cons, okKeys, okKey, okKeys_int l, Bool.and_self]
theorem depth_num : ∀ l : Lv, NestedKey.depthAll (l.map NestedKey.num) = 0
  | [] => rfl
  | x :: l => by simp [NestedKey.depthAll, NestedKey.depth, depth_num l]
theorem okTup_eP (p : Place) : okTup (eP p) = true := by
  have h1 : okKeys [D.int (p.1 : Nat), eL p.2] = true := by
    have : okKey (eL p.2) = true := okKeys_int p.2
    simp only [okKeys, okKey, this, Bool.and_self]
  have h2 : (keyD (.tup [D.int (p.1 : Nat), eL p.2])).depth ≤ 8 := by
    have := keyD_eP p
    unfold eP at this
    rw [this]
    simp [NestedKey.depth, NestedKey.depthAll, depth_num]
  unfold eP okTup
  simp only [h1, h2, decide_true, Bool.and_self]
theorem dLook_eC (p : Place) : ∀ c : Came, dLook (eC c) (eP p) = (clook c p).map eV
  | [] => rfl
  | x :: c => by
    have ih := dLook_eC p c
    by_cases h : x.1 = p
    · have h' : keyD (eP x.1) = keyD (eP p) := keyP_inj.mpr h
      simp [eC, dLook, clook, h, h']
    · have h' : ¬ keyD (eP x.1) = keyD (eP p) := fun z => h (keyP_inj.mp z)
      have e1 : dLook (eC (x :: c)) (eP p) = dLook (eC c) (eP p) := by simp [eC, dLook, List.find?_cons, h']
      have e2 : clook (x :: c) p = clook c p := by simp [clook, List.find?_cons, h]
      rw [e1, e2, ih]
theorem dPut_eC {p : Place} {v : Option (Place × Nat)} {c : Came} (h : clook c p = none) : dPut (eC c) (eP p) (eV v) = eC (c ++ [(p, v)]) := by
  unfold dPut
  rw [dLook_eC, h]
  simp [eC]
theorem below_eV (v : Option (Place × Nat)) : below 0 (eV v) = true := by
  cases v with
  | none => rfl
  | some x => simp only [eV, below, belows, below_eP, Bool.and_self]
theorem cell_eC {n : Nat} (c : Came) : cellBelow n (.dN false (eC c)) := by
  intro p hp
  obtain ⟨x, _, rfl⟩ := List.mem_map.mp hp
  exact ⟨below_mono (Nat.zero_le _) _ (below_eP _), below_mono (Nat.zero_le _) _ (below_eV _)⟩
/-- the store while a layer is made -/
abbrev sto (S : Store) (k : Nat) (st : Came × List Place) : Store := S.set k (.dN false (eC st.1)) ++ [.lst (st.2.map eP)]
section
variable {S : Store} {k : Nat} {st : Came × List Place}
theorem sto_k (hk : k < S.length) : (sto S k st)[k]? = some (.dN false (eC st.1)) := by
  rw [List.getElem?_append_left (by simpa using hk)]
  simp [hk]
theorem sto_e : (sto S k st)[S.length]? = some (.lst (st.2.map eP)) := by
  rw [List.getElem?_append_right (by simp)]
  simp
theorem sto_setk (hk : k < S.length) (c : Came) : (sto S k st).set k (.dN false (eC c)) = sto S k (c, st.2) := by
  rw [List.set_append_left _ _ (by simpa using hk), List.set_set]
theorem sto_sete (f : List Place) : (sto S k st).set S.length (.lst (f.map eP)) = sto S k (st.1, f) := by
  rw [List.set_append_right _ _ (by simp)]
  simp
theorem sto_look (hk : k < S.length) (p : Place) : lookD (sto S k st) (.ref k) (eP p) = some ((clook st.1 p).map eV) := by
  unfold lookD
  simp only [sto_k hk]
  rw [if_pos (okTup_eP p), dLook_eC]
end
theorem stp_len (pl : Place) (n : Nat) (m : Mv) (st : Came × List Place) : st.1.length ≤ (stp pl n m st).1.length := by
  unfold stp
  split <;> simp
theorem fold_len {α : Type} (f : Came × List Place → α → Came × List Place) (h : ∀ s x, s.1.length ≤ (f s x).1.length) : ∀ (xs : List α) (s : Came × List Place), s.1.length ≤ (xs.foldl f s).1.length
  | [], s => Nat.le_refl _
  | x :: xs, s => Nat.le_trans (h s x) (fold_len f h xs (f s x))
theorem stpM_len (b : Bk) (pl : Place) (st : Came × List Place) : st.1.length ≤ (stpM b pl st).1.length := fold_len (fun st (x : Mv × Nat) => stp pl x.2 x.1 st) (fun s x => stp_len pl x.2 x.1 s) _ st
/-- found is no longer than came -/
theorem stp_le {pl : Place} {n : Nat} {m : Mv} {st : Came × List Place} (h : st.2.length ≤ st.1.length) : (stp pl n m st).2.length ≤ (stp pl n m st).1.length := by
  unfold stp
  split
  · simpa using h
  · exact h
theorem call_upd {n : Nat} {c : DS} {ds : List D} {S S' : Store} {d : D} (h : Ev c (ds.map some ++ List.replicate (n - ds.length) none) S (fun f => ∃ T, f = .rt d (S' ++ T))) (hl : S'.length = S.length) (hc : ∀ k : Nat, k < S.length → S'[k]? = S[k]? ∨ ∃ c, S'[k]? = some c ∧ cellBelow S.length c) (hb : below 0 d = true) : callF n c ds S = some (d, S') := by
  obtain ⟨f, e, T, rfl⟩ := h
  unfold callF
  rw [e]
  exact leave_upd hl hc (below_mono (Nat.zero_le _) d hb)
theorem layer_ok {b : Bk} (W : WB b) {S : Store} {k : Nat} {c : Came} {layer : List Place} (hk : S[k]? = some (.dN false (eC c))) (hlay : ∀ p ∈ layer, p.1 < b.sts.length ∧ p.2.length = b.T) (hsz : (layr b layer c).1.length < sizeLine) :
    f_layer_behind [eB b, .ref k, .lst (layer.map eP)] S = some (.lst ((layr b layer c).2.map eP), S.set k (.dN false (eC (layr b layer c).1))) := by
  have hT := W.t2
  have hkl : k < S.length := (List.getElem?_eq_some_iff.mp hk).1
  have z0 : (0 : Nat) ≤ sizeLine := Nat.zero_le _
  have z2 : (2 : Nat) ≤ sizeLine := by rw [sizeLine_eq]; omega
  refine call_upd ?_ (by simp) (fun i hi => ?_) (belows_map fun _ _ => below_eP _)
  · unfold c_layer_behind
    have hS : S ++ [Cell.lst []] = sto S k (c, []) := by
      have e : S.set k (.dN false (eC c)) = S := by
        refine List.ext_getElem? fun i => ?_
        by_cases hi : i = k
        · subst hi; rw [List.getElem?_set_self hkl, hk]
        · rw [List.getElem?_set_ne (Ne.symm hi)]
      show S ++ [Cell.lst []] = S.set k (.dN false (eC c)) ++ [Cell.lst []]
      rw [e]
    refine Ev.seq (Ev.setN (d := .ref S.length) (S' := sto S k (c, [])) (by rw [← hS]; simp [sSeq, sSet, sRet, sExpr, sIf, gN, gT, gsCons, gsNil, cVar, cC, cBin, cUn, cNil, cCons, cApp, cB, cTr, cAnd, cOr, cNot, cV, cAndV, cOrV, cNotV, cIf, nD, mkTup, mkLst, mkBox, asQ, asL, negD, addD, subD, cmpD, isND, notND, eqD, neD, eqS, lenD, tupleD, DL.intD, cM, apnd, popM, sPar, sPar3, sNext, sAug, ipD]) ?_)
    refine Ev.seq (Ev.for_ (S' := sto S k (c, [])) eP (fun rem ρ S' => ∃ st x4 x5 x6 x7 x8 x9, ρ = [some (eB b), some (.ref k), some (.lst (layer.map eP)), some (.ref S.length), x4, x5, x6, x7, x8, x9] ∧ S' = sto S k st ∧ rem.foldl (fun st pl => stpM b pl st) st = layr b layer c ∧ (∀ p ∈ rem, p.1 < b.sts.length ∧ p.2.length = b.T) ∧ st.2.length ≤ st.1.length)
      (xs := layer.map eP) (by simp [cItS, cVar, itSeq]) rfl ⟨(c, []), none, none, none, none, none, none, rfl, rfl, rfl, hlay, by simp⟩ ?_ ?_)
    · rintro pl rem ρ S' ⟨st, x4, x5, x6, x7, x8, x9, rfl, rfl, hf, hr, hle⟩
      obtain ⟨hp1, hp2⟩ := hr pl (by simp)
      refine ⟨_, rfl, ?_⟩
      refine Ev.seq (Ev.set (d := eP pl) (S' := sto S k st) (ρ' := [some (eB b), some (.ref k), some (.lst (layer.map eP)), some (.ref S.length), some (eP pl), some (.int pl.1), some (eL pl.2), x7, x8, x9]) (by simp [sSeq, sSet, sRet, sExpr, sIf, gN, gT, gsCons, gsNil, cVar, cC, cBin, cUn, cNil, cCons, cApp, cB, cTr, cAnd, cOr, cNot, cV, cAndV, cOrV, cNotV, cIf, nD, mkTup, mkLst, mkBox, asQ, asL, negD, addD, subD, cmpD, isND, notND, eqD, neD, eqS, lenD, tupleD, DL.intD, cM, apnd, popM, sPar, sPar3, sNext, sAug, ipD]) (by simp [gT, gsCons, gN, gsNil, eP]) ?_)
      rw [List.foldl_cons] at hf
      refine Ev.for_ (S' := sto S k st) (fun x : Mv × Nat => .tup [.int (x.2 : Nat), eM x.1]) (fun r2 ρ S' => ∃ s2 x7 x8 x9, ρ = [some (eB b), some (.ref k), some (.lst (layer.map eP)), some (.ref S.length), some (eP pl), some (.int pl.1), some (eL pl.2), x7, x8, x9] ∧ S' = sto S k s2 ∧ r2.foldl (fun st x => stp pl x.2 x.1 st) s2 = stpM b pl st ∧ s2.2.length ≤ s2.1.length)
        (xs := enumFrom 0 ((mvs b pl.1).map eM)) (by simp [cEnum, sSeq, sSet, sRet, sExpr, sIf, gN, gT, gsCons, gsNil, cVar, cC, cBin, cUn, cNil, cCons, cApp, cB, cTr, cAnd, cOr, cNot, cV, cAndV, cOrV, cNotV, cIf, nD, mkTup, mkLst, mkBox, asQ, asL, negD, addD, subD, cmpD, isND, notND, eqD, neD, eqS, lenD, tupleD, DL.intD, cM, apnd, popM, sPar, sPar3, sNext, sAug, ipD, moves_ok hp1, itEnum]) (enum_map _ _ _) ⟨st, x7, x8, x9, rfl, rfl, rfl, hle⟩ ?_ ?_
      · rintro ⟨m, n⟩ r2 ρ S' ⟨s2, x7, x8, x9, rfl, rfl, hf2, hle2⟩
        refine ⟨_, by simp [gT, gsCons, gN, gsNil]; rfl, ?_⟩
        rw [List.foldl_cons] at hf2
        have hgrow : (stp pl n m s2).1.length ≤ (layr b layer c).1.length := by
          have h1 := fold_len (fun st (x : Mv × Nat) => stp pl x.2 x.1 st) (fun s x => stp_len pl x.2 x.1 s) r2 (stp pl n m s2)
          rw [hf2] at h1
          have h2 := fold_len (fun st pl => stpM b pl st) (fun s x => stpM_len b x s) rem (stpM b pl st)
          rw [hf] at h2
          omega
        refine Ev.seq (Ev.setN (d := eP (m.to, add pl.2 m.p)) (S' := sto S k s2) (by simp [sSeq, sSet, sRet, sExpr, sIf, gN, gT, gsCons, gsNil, cVar, cC, cBin, cUn, cNil, cCons, cApp, cB, cTr, cAnd, cOr, cNot, cV, cAndV, cOrV, cNotV, cIf, nD, mkTup, mkLst, mkBox, asQ, asL, negD, addD, subD, cmpD, isND, notND, eqD, neD, eqS, lenD, tupleD, DL.intD, cM, apnd, popM, sPar, sPar3, sNext, sAug, ipD, ixM2, ixM1, poured_ok (l := pl.2) (p := m.p) (by omega), z2, eP]) ?_)
        simp only [List.set_cons_zero, List.set_cons_succ]
        have hdl : (add pl.2 m.p).length ≤ 100000 := by
          simp only [add, List.length_zipWith]
          omega
        by_cases hc : dry (add pl.2 m.p) = false ∧ clook s2.1 (m.to, add pl.2 m.p) = none
        · obtain ⟨hc1, hc2⟩ := hc
          have est : stp pl n m s2 = (s2.1 ++ [((m.to, add pl.2 m.p), some (pl, n))], s2.2 ++ [(m.to, add pl.2 m.p)]) := by
            unfold stp
            rw [if_pos ⟨hc1, hc2⟩]
          rw [est] at hf2 hgrow
          simp only [List.length_append, List.length_singleton] at hgrow
          refine Ev.ifT (S' := sto S k s2) ?_ ?_
          · simp only [cAnd, cNot, cB, cApp, cCons, cNil, cBin, cVar, cC, nD, List.getElem?_cons_zero, List.getElem?_cons_succ, ixP1, List.length_cons, List.length_nil, Nat.zero_add, Nat.reduceAdd, if_true, dry_ok hdl, hc1, Bool.not_false, dNotInD, sto_look hkl, hc2, Option.map_none, Option.map_some, Option.isSome_none]
          · have hput : putD (sto S k s2) (.ref k) (eP (m.to, add pl.2 m.p)) (.tup [eP pl, .int n]) = some (sto S k (s2.1 ++ [((m.to, add pl.2 m.p), some (pl, n))], s2.2)) := by
              unfold putD
              simp only [sto_k hkl]
              rw [if_pos ⟨okTup_eP _, by simp only [eC, List.length_map]; omega⟩]
              rw [show D.tup [eP pl, D.int (n : Nat)] = eV (some (pl, n)) from rfl, dPut_eC hc2, sto_setk hkl]
            refine Ev.seq ⟨.nx [some (eB b), some (.ref k), some (.lst (layer.map eP)), some (.ref S.length), some (eP pl), some (.int pl.1), some (eL pl.2), some (.int n), some (eM m), some (eP (m.to, add pl.2 m.p))] (sto S k (s2.1 ++ [((m.to, add pl.2 m.p), some (pl, n))], s2.2)), ?_, ?_⟩
            · simp only [sDPutC, cApp, cCons, cNil, cVar, mkTup, List.getElem?_cons_zero, List.getElem?_cons_succ, List.length_cons, List.length_nil, Nat.zero_add, Nat.reduceAdd, z2, if_true, hput]
            · refine Ev.expr (d := .non) (S' := sto S k (s2.1 ++ [((m.to, add pl.2 m.p), some (pl, n))], s2.2 ++ [(m.to, add pl.2 m.p)])) ?_ ⟨_, _, _, _, rfl, rfl, hf2, by simpa using hle2⟩
              have hlt : (s2.2.map eP).length < sizeLine := by rw [List.length_map]; omega
              have e3 : s2.2.map eP ++ [eP (m.to, add pl.2 m.p)] = (s2.2 ++ [(m.to, add pl.2 m.p)]).map eP := by simp
              simp only [cM, cVar, cCons, cNil, List.getElem?_cons_zero, List.getElem?_cons_succ, sto_e, apnd, hlt, if_true, e3, sto_sete]
        · have est : stp pl n m s2 = s2 := by
            unfold stp
            rw [if_neg hc]
          rw [est] at hf2
          refine Ev.ifF (S' := sto S k s2) ?_ (Ev.next ⟨s2, _, _, _, rfl, rfl, hf2, hle2⟩)
          cases hdr : dry (add pl.2 m.p) with
          | true => simp only [cAnd, cNot, cB, cApp, cCons, cNil, cBin, cVar, cC, nD, List.getElem?_cons_zero, List.getElem?_cons_succ, ixP1, List.length_cons, List.length_nil, Nat.zero_add, Nat.reduceAdd, if_true, dry_ok hdl, hdr, Bool.not_true]
          | false =>
            cases hcl : clook s2.1 (m.to, add pl.2 m.p) with
            | none => exact absurd ⟨hdr, hcl⟩ hc
            | some v => simp only [cAnd, cNot, cB, cApp, cCons, cNil, cBin, cVar, cC, nD, List.getElem?_cons_zero, List.getElem?_cons_succ, ixP1, List.length_cons, List.length_nil, Nat.zero_add, Nat.reduceAdd, if_true, dry_ok hdl, hdr, Bool.not_false, dNotInD, sto_look hkl, hcl, Option.map_some, Option.isSome_some, Bool.not_true]
      · rintro ρ S' ⟨s2, x7, x8, x9, rfl, rfl, hf2, hle2⟩
        simp only [List.foldl_nil] at hf2
        subst hf2
        exact ⟨_, _, _, _, _, _, _, rfl, rfl, hf, fun p hp => hr p (by simp [hp]), hle2⟩
    · rintro ρ S' ⟨st, x4, x5, x6, x7, x8, x9, rfl, rfl, hf, hr, hle⟩
      simp only [List.foldl_nil] at hf
      subst hf
      refine Ev.ret (d := .lst ((layr b layer c).2.map eP)) (S' := S.set k (.dN false (eC (layr b layer c).1)) ++ [.dead]) ?_ ⟨[.dead], rfl⟩
      have e : (sto S k (layr b layer c)).set S.length .dead = S.set k (.dN false (eC (layr b layer c).1)) ++ [.dead] := by
        rw [List.set_append_right _ _ (by simp)]
        simp
      simp only [cFrz, cVar, List.getElem?_cons_zero, List.getElem?_cons_succ, sto_e, e]
  · by_cases hik : i = k
    · subst hik
      exact .inr ⟨_, List.getElem?_set_self hkl, cell_eC _⟩
    · exact .inl (List.getElem?_set_ne (Ne.symm hik))
end K88

namespace K88
open PySem PySem.Spec PyProof.Rows L2 DL

theorem look_at {S T : Store} {k : Nat} {c : Came} (hk : S[k]? = some (.dN false (eC c))) (p : Place) : lookD (S ++ T) (.ref k) (eP p) = some ((clook c p).map eV) := by
  have hkl : k < S.length := (List.getElem?_eq_some_iff.mp hk).1
  unfold lookD
  simp only [List.getElem?_append_left hkl, hk]
  rw [if_pos (okTup_eP p), dLook_eC]
theorem ledback_ok {b : Bk} {st : Place} {S : Store} {k : Nat} {c : Came} {p : Place} {ns : List Nat} {ms : List Mv} (hk : S[k]? = some (.dN false (eC c))) (h : Pth b st c p ns ms) (hn : ns.length ≤ 100000) : f_led_back [.ref k, eP p] S = some (eN ns, S) := by
  have z0 : (0 : Nat) ≤ sizeLine := Nat.zero_le _
  have hg : ∀ c : Cell, (S ++ [c])[S.length]? = some c := fun c => by simp
  refine call_ev ?_ (below_eN _)
  unfold c_led_back
  refine Ev.seq (Ev.setN (d := .ref S.length) (S' := S ++ [.lst []]) (by simp [sSeq, sSet, sRet, sExpr, sIf, gN, gT, gsCons, gsNil, cVar, cC, cBin, cUn, cNil, cCons, cApp, cB, cTr, cAnd, cOr, cNot, cV, cAndV, cOrV, cNotV, cIf, nD, mkTup, mkLst, mkBox, asQ, asL, negD, addD, subD, cmpD, isND, notND, eqD, neD, eqS, lenD, tupleD, DL.intD, cM, apnd, popM, sPar, sPar3, sNext, sAug, ipD]) ?_)
  refine Ev.seq (Ev.while_ (fun (x : Place × List Nat × List Nat) ρ S' => ∃ ms x3 x4, ρ = [some (.ref k), some (eP x.1), some (.ref S.length), x3, x4] ∧ S' = S ++ [.lst (x.2.2.map fun n => .int (n : Nat))] ∧ Pth b st c x.1 x.2.1 ms ∧ x.2.1 ++ x.2.2.reverse = ns) (fun x => x.2.1.length) (p, ns, []) ⟨ms, none, none, rfl, rfl, h, by simp⟩ ?_)
  rintro ⟨q0, ns', acc⟩ ρ S' ⟨ms', x3, x4, rfl, rfl, hp, he⟩
  cases hp with
  | base e =>
    refine ⟨false, S ++ [.lst (acc.map fun n => .int (n : Nat))], ?_, fun _ => ?_, fun z => by cases z⟩
    · simp only [cB, cBin, cVar, cC, List.getElem?_cons_zero, List.getElem?_cons_succ, dGetD, look_at hk, e, Option.map_some, eV, notND]
    · refine Ev.ret (d := eN ns) (S' := S ++ [.lst (acc.map fun n => .int (n : Nat))]) ?_ ⟨_, rfl⟩
      simp only [cApp, cCons, cNil, cUn, cVar, List.getElem?_cons_zero, List.getElem?_cons_succ, revD, asQ, asL, hg, tupleD, eN, ← he, List.nil_append, List.map_reverse]
  | @step q n m ns2 ms2 e hm hd hp =>
    refine ⟨true, S ++ [.lst (acc.map fun n => .int (n : Nat))], ?_, fun z => (by cases z), fun _ => ?_⟩
    · simp only [cB, cBin, cVar, cC, List.getElem?_cons_zero, List.getElem?_cons_succ, dGetD, look_at hk, e, Option.map_some, eV, notND]
    · refine Ev.seq (Ev.set (d := .tup [eP q, .int n]) (S' := S ++ [.lst (acc.map fun n => .int (n : Nat))]) (ρ' := [some (.ref k), some (eP (m.to, add q.2 m.p)), some (.ref S.length), some (eP q), some (.int n)]) ?_ (by simp [gT, gsCons, gN, gsNil]) ?_)
      · simp only [cBin, cVar, List.getElem?_cons_zero, List.getElem?_cons_succ, dGetD, look_at hk, e, Option.map_some, eV]
      · have hlt : (acc.map fun n => D.int (n : Nat)).length < sizeLine := by
          rw [List.length_map, sizeLine_eq]
          have := congrArg List.length he
          simp at this
          omega
        have e3 : (acc.map fun n => D.int (n : Nat)) ++ [D.int (n : Nat)] = (acc ++ [n]).map fun n => D.int (n : Nat) := by simp
        refine Ev.seq (Ev.expr (d := .non) (S' := S ++ [.lst ((acc ++ [n]).map fun n => .int (n : Nat))]) ?_ ?_)
        · simp only [cM, cVar, cCons, cNil, List.getElem?_cons_zero, List.getElem?_cons_succ, hg, apnd, hlt, if_true, e3, set_end]
        · refine Ev.setN (d := eP q) (S' := S ++ [.lst ((acc ++ [n]).map fun n => .int (n : Nat))]) rfl ⟨(q, ns2, acc ++ [n]), ?_, ms2, _, _, rfl, rfl, hp, ?_⟩
          · simp
          · rw [← he]
            simp
def tgt (g : Option Nat) (wt : Lv) (p : Place) : Bool := gok g p.1 && geB p.2 wt
def SRes (b : Bk) (st : Place) (t : Place → Bool) (most : Nat) : Option (List Nat) → Prop
  | none => ∀ n x, n ≤ most → R b st n x → t x = false
  | some ns => ns.length ≤ most ∧ ∃ ms s', Wk b st.1 ns ms s' ∧ t (s', fin st.2 ms) = true ∧ (∀ y ∈ crs st.2 ms, dry y = false) ∧ ∀ n x, n < ns.length → R b st n x → t x = false
def eR : Option (List Nat) → D
  | none => .non
  | some ns => eN ns
theorem below_eR (r : Option (List Nat)) : below 0 (eR r) = true := by
  cases r with
  | none => rfl
  | some ns => exact below_eN ns
theorem R.wf {b : Bk} (W : WB b) {st : Place} (h1 : st.1 < b.sts.length) (h2 : st.2.length = b.T) {n : Nat} {x : Place} (h : R b st n x) : x.1 < b.sts.length ∧ x.2.length = b.T := by
  induction h with
  | zero => exact ⟨h1, h2⟩
  | succ _ hm _ ih =>
    refine ⟨W.mt (List.mem_of_getElem? hm), ?_⟩
    show (add _ _).length = _
    rw [add_len, ih.2]
    rw [W.mp (List.mem_of_getElem? hm), ih.2]
theorem BI.size {b : Bk} {st : Place} {t : Place → Bool} {k : Nat} {c : Came} {layer : List Place} (h : BI b st t k c layer) {U : List Place} (hU : ∀ n x, n ≤ k → R b st n x → x ∈ U) : c.length ≤ U.length := by
  have := nodup_le (keys c) U h.nd fun x hx => let ⟨n, h1, h2⟩ := h.key x hx; hU n x h1 h2
  simpa [keys] using this
theorem searched_ok {b : Bk} (W : WB b) {s : Nat} {l wt : Lv} {g : Option Nat} {most : Nat} {S : Store} (hs : s < b.sts.length) (hl : l.length = b.T) (hm : most ≤ 1000) {U : List Place} (hU : ∀ n x, n ≤ most + 1 → R b (s, l) n x → x ∈ U) (hz : U.length < sizeLine) :
    ∃ r, SRes b (s, l) (tgt g wt) most r ∧ f_searched [eB b, .int s, eL l, eG g, eL wt, .int most] S = some (eR r, S) := by
  have hT := W.t2
  have z1 : (1 : Nat) ≤ sizeLine := by rw [sizeLine_eq]; omega
  have z2 : (2 : Nat) ≤ sizeLine := by rw [sizeLine_eq]; omega
  have key : Ev c_searched ([eB b, .int s, eL l, eG g, eL wt, .int most].map some ++ List.replicate (10 - 6) none) S (fun f => ∃ r T, f = .rt (eR r) (S ++ T) ∧ SRes b (s, l) (tgt g wt) most r) := by
    unfold c_searched
    have hok : okTup (.tup [.int s, eL l]) = true := okTup_eP (s, l)
    refine Ev.seq (Ev.setN (d := .ref S.length) (S' := S ++ [.dN false (eC [((s, l), none)])]) (by
      simp only [cDisp, cApp, cCons, cNil, cVar, cC, mkTup, List.map_cons, List.map_nil, List.cons_append, List.nil_append, List.getElem?_cons_zero, List.getElem?_cons_succ, List.length_cons, List.length_nil, Nat.zero_add, Nat.reduceAdd, z2, if_true, hok]
      rfl) ?_)
    refine Ev.seq (Ev.setN (d := .lst ([(s, l)].map eP)) (S' := S ++ [.dN false (eC [((s, l), none)])]) (by simp [sSeq, sSet, sRet, sExpr, sIf, gN, gT, gsCons, gsNil, cVar, cC, cBin, cUn, cNil, cCons, cApp, cB, cTr, cAnd, cOr, cNot, cV, cAndV, cOrV, cNotV, cIf, nD, mkTup, mkLst, mkBox, asQ, asL, negD, addD, subD, cmpD, isND, notND, eqD, neD, eqS, lenD, tupleD, DL.intD, cM, apnd, popM, sPar, sPar3, sNext, sAug, ipD, z1, z2, eP]) ?_)
    refine Ev.seq (Ev.for_ (S' := S ++ [.dN false (eC [((s, l), none)])]) (fun n : Nat => .int (n : Nat)) (fun rem ρ S' => ∃ k c layer x8 x9, rem = List.range' k (most + 1 - k) ∧ k ≤ most + 1 ∧ ρ = [some (eB b), some (.int s), some (eL l), some (eG g), some (eL wt), some (.int most), some (.ref S.length), some (.lst (layer.map eP)), x8, x9] ∧ S' = S ++ [.dN false (eC c)] ∧ BI b (s, l) (tgt g wt) k c layer)
      (rng1 (n := most + 1) (by simp [sSeq, sSet, sRet, sExpr, sIf, gN, gT, gsCons, gsNil, cVar, cC, cBin, cUn, cNil, cCons, cApp, cB, cTr, cAnd, cOr, cNot, cV, cAndV, cOrV, cNotV, cIf, nD, mkTup, mkLst, mkBox, asQ, asL, negD, addD, subD, cmpD, isND, notND, eqD, neD, eqS, lenD, tupleD, DL.intD, cM, apnd, popM, sPar, sPar3, sNext, sAug, ipD]) (by omega)) rfl ⟨0, _, _, none, none, by rw [List.range_eq_range']; simp, Nat.zero_le _, rfl, rfl, bi_start⟩ ?_ ?_)
    · rintro lap rem ρ S' ⟨k, c, layer, x8, x9, hr, hk, rfl, rfl, hB⟩
      obtain ⟨rfl, hlt, rfl⟩ := rng_at hr hk
      have hg : ∀ c : Cell, (S ++ [c])[S.length]? = some c := fun c => by simp
      have hwf : ∀ p ∈ layer, p.1 < b.sts.length ∧ p.2.length = b.T := fun p hp => by
        obtain ⟨ns, ms, _, hpt⟩ := hB.lay p hp
        exact hpt.r.wf W hs hl
      refine ⟨_, rfl, ?_⟩
      refine Ev.seq (Ev.for_ (S' := S ++ [.dN false (eC c)]) eP (fun rem2 ρ S' => ∃ pre x9, layer = pre ++ rem2 ∧ (∀ p ∈ pre, tgt g wt p = false) ∧ ρ = [some (eB b), some (.int s), some (eL l), some (eG g), some (eL wt), some (.int most), some (.ref S.length), some (.lst (layer.map eP)), some (.int lap), x9] ∧ S' = S ++ [.dN false (eC c)])
        (xs := layer.map eP) (by simp [cItS, cVar, itSeq]) rfl ⟨[], x9, rfl, by simp, rfl, rfl⟩ ?_ ?_)
      · rintro p rem2 ρ S' ⟨pre, x9, hlay, hpre, rfl, rfl⟩
        have hpl : p ∈ layer := by rw [hlay]; simp
        obtain ⟨hp1, hp2⟩ := hwf p hpl
        refine ⟨_, rfl, ?_⟩
        have hcond : (cAnd (cOr (cB (cBin isND (cVar 3) (cC .non))) (cB (cBin eqD (cBin ixD (cVar 9) (cC (.int 0))) (cVar 3)))) (cB (cApp (nD 2 f_at_least) (cCons (cBin ixD (cVar 9) (cC (.int 1))) (cCons (cVar 4) cNil)))))
            [some (eB b), some (.int s), some (eL l), some (eG g), some (eL wt), some (.int most), some (.ref S.length), some (.lst (layer.map eP)), some (.int lap), some (eP p)] (S ++ [.dN false (eC c)]) = some (tgt g wt p, S ++ [.dN false (eC c)]) := by
          cases g with
          | none => simp only [cAnd, cOr, cB, cBin, cVar, cC, isND, eG, cApp, cCons, cNil, nD, List.length_cons, List.length_nil, Nat.zero_add, Nat.reduceAdd, if_true, List.getElem?_cons_zero, List.getElem?_cons_succ, ixP1, atLeast_ok (l := p.2) (p := wt) (by omega), tgt, gok, Bool.true_and]
          | some g =>
            by_cases hpg : p.1 = g
            · have e : decide ((p.1 : Int) = (g : Int)) = true := by simp [hpg]
              simp only [cAnd, cOr, cB, cBin, cVar, cC, isND, eG, cApp, cCons, cNil, nD, List.length_cons, List.length_nil, Nat.zero_add, Nat.reduceAdd, if_true, List.getElem?_cons_zero, List.getElem?_cons_succ, ixP0, eqD, eqS, Option.map_some, e, ixP1, atLeast_ok (l := p.2) (p := wt) (by omega), tgt, gok, hpg, decide_true, Bool.true_and]
            · have e : decide ((p.1 : Int) = (g : Int)) = false := by
                simp only [decide_eq_false_iff_not]
                omega
              simp only [cAnd, cOr, cB, cBin, cVar, cC, isND, eG, List.getElem?_cons_zero, List.getElem?_cons_succ, ixP0, eqD, eqS, Option.map_some, e, tgt, gok, hpg, decide_false, Bool.false_and]
        refine Ev.ite hcond (fun ht => ?_) fun hf => Ev.next ⟨pre ++ [p], _, by rw [hlay]; simp, fun y hy => ?_, rfl, rfl⟩
        · obtain ⟨ns, ms, hln, hpt⟩ := hB.lay p hpl
          refine Ev.ret (d := eN ns) (S' := S ++ [.dN false (eC c)]) ?_ ⟨some ns, [.dN false (eC c)], rfl, ?_⟩
          · simp only [List.set_cons_zero, List.set_cons_succ, cApp, cCons, cNil, cVar, nD, List.length_cons, List.length_nil, Nat.zero_add, Nat.reduceAdd, if_true, List.getElem?_cons_zero, List.getElem?_cons_succ, ledback_ok (S := S ++ [.dN false (eC c)]) (hg _) hpt (by omega)]
          · obtain ⟨w1, w2, w3⟩ := hpt.wk
            refine ⟨by omega, ms, p.1, w1, ?_, w3, fun n x hn hr => ?_⟩
            · rw [w2]; exact ht
            · rw [hln] at hn
              exact (hB.old x (hB.all n x (by omega) hr) (hB.new n x hn hr)).1
        · rcases List.mem_append.mp hy with hy | hy
          · exact hpre y hy
          · rw [List.mem_singleton.mp hy]; exact hf
      · rintro ρ S' ⟨pre, x9, hlay, hpre, rfl, rfl⟩
        rw [List.append_nil] at hlay
        subst hlay
        have hB' := bi_step hB hpre
        have hsz : (layr b layer c).1.length < sizeLine := Nat.lt_of_le_of_lt (hB'.size fun n x hn hr => hU n x (by omega) hr) hz
        refine Ev.setN (d := .lst ((layr b layer c).2.map eP)) (S' := S ++ [.dN false (eC (layr b layer c).1)]) ?_ ⟨lap + 1, _, _, _, _, rfl, hlt, rfl, rfl, hB'⟩
        have := layer_ok W (S := S ++ [.dN false (eC c)]) (hg _) hwf hsz
        rw [set_end] at this
        simp only [cApp, cCons, cNil, cVar, nD, List.length_cons, List.length_nil, Nat.zero_add, Nat.reduceAdd, if_true, List.getElem?_cons_zero, List.getElem?_cons_succ, this]
    · rintro ρ S' ⟨k, c, layer, x8, x9, hr, hk, rfl, rfl, hB⟩
      have hkm : k = most + 1 := by
        have := congrArg List.length hr
        simp at this
        omega
      subst hkm
      refine Ev.ret (d := .non) (S' := S ++ [.dN false (eC c)]) rfl ⟨none, [.dN false (eC c)], rfl, fun n x hn hr => ?_⟩
      exact (hB.old x (hB.all n x (by omega) hr) (hB.new n x (by omega) hr)).1
  obtain ⟨f, e, r, T, rfl, hr⟩ := key
  exact ⟨r, hr, call_rt e (below_eR r)⟩
end K88

namespace K88
open PySem PySem.Spec PyProof.Rows L2 DL

theorem cancome_ok {b : Bk} (W : WB b) {s g : Nat} {l : Lv} {most : Nat} {S : Store} (hs : s < b.sts.length) (hl : l.length = b.T) (hm : most ≤ 1000) {U : List Place} (hU : ∀ n x, n ≤ most + 1 → R b (s, l) n x → x ∈ U) (hz : U.length < sizeLine) :
    ∃ r, SRes b (s, l) (tgt (some g) (zs b)) most r ∧ f_can_come [eB b, .int s, eL l, .int g, .int most] S = some (eR r, S) := by
  have hT := W.t2
  obtain ⟨r, h1, h2⟩ := searched_ok (S := S) W (g := some g) (wt := zs b) hs hl hm hU hz
  refine ⟨r, h1, call_rt0 ?_ (below_eR r)⟩
  have hc := cLC_map (S := S) (ρ := [some (eB b), some (.int s), some (eL l), some (.int g), some (.int most), none]) (vs := [5]) (ci := cItS (cVar 2)) (g := gN 5) (e := cC (.int 0))
    (l := l) D.int (fun _ => .int 0) (xs := l.map D.int) (by simp [cItS, cVar, eL, itSeq]) rfl (small (by omega)) (fun q hq => ⟨_, rfl, rfl⟩)
  have e : l.map (fun _ => D.int 0) = (zs b).map D.int := by
    rw [List.map_replicate, List.map_const', hl]
  rw [e] at hc
  have hz0 : D.tup ((zs b).map D.int) = eL (zs b) := rfl
  have h2' : f_searched [eB b, .int s, eL l, .int g, eL (zs b), .int most] S = some (eR r, S) := h2
  simp only [c_can_come, sRet, cApp, cCons, cNil, cVar, nD, List.map_cons, List.map_nil, List.length_cons, List.length_nil, List.replicate, Nat.reduceSub, List.cons_append, List.nil_append, Nat.zero_add, Nat.reduceAdd, if_true, List.getElem?_cons_zero, List.getElem?_cons_succ, hc, tupleD, asQ, asL, hz0, h2']
theorem fewest_ok {b : Bk} (W : WB b) {s : Nat} {l wt : Lv} {most : Nat} {S : Store} (hs : s < b.sts.length) (hl : l.length = b.T) (hm : most ≤ 1000) {U : List Place} (hU : ∀ n x, n ≤ most + 1 → R b (s, l) n x → x ∈ U) (hz : U.length < sizeLine) :
    ∃ r, SRes b (s, l) (tgt none wt) most r ∧ f_fewest_moves [eB b, .int s, eL l, eL wt, .int most] S = some (eR r, S) := by
  obtain ⟨r, h1, h2⟩ := searched_ok (S := S) W (g := none) (wt := wt) hs hl hm hU hz
  refine ⟨r, h1, call_rt0 ?_ (below_eR r)⟩
  have h2' : f_searched [eB b, .int s, eL l, .non, eL wt, .int most] S = some (eR r, S) := h2
  simp only [c_fewest_moves, sRet, cApp, cCons, cNil, cVar, cC, nD, List.map_cons, List.map_nil, List.length_cons, List.length_nil, List.replicate, Nat.reduceSub, List.cons_append, List.nil_append, Nat.zero_add, Nat.reduceAdd, if_true, List.getElem?_cons_zero, List.getElem?_cons_succ, h2']
/-- what a law says is due -/
def Due (b : Bk) (st : Place) (t : Place → Bool) (most : Nat) : Option Nat → Prop
  | none => ∀ n x, n ≤ most → R b st n x → t x = false
  | some d => d ≤ most ∧ (∃ x, R b st d x ∧ t x = true) ∧ ∀ n x, n < d → R b st n x → t x = false
theorem Wk.r {b : Bk} {st : Place} : ∀ {ns : List Nat} {ms : List Mv} {k : Nat} {y : Place} {s' : Nat}, R b st k y → Wk b y.1 ns ms s' → (∀ z ∈ crs y.2 ms, dry z = false) → R b st (k + ns.length) (s', fin y.2 ms)
  | _, _, k, y, _, h, .nil _, _ => h
  | _, _, k, y, s', h, .cons (n := n) (m := m) (ns := ns) (ms := ms) hm hw, hd => by
    have h1 := R.succ h hm (hd _ (by simp [crs]))
    have := Wk.r (y := (m.to, add y.2 m.p)) h1 hw fun z hz => hd z (by simp [crs, hz])
    rw [List.length_cons]
    have e : k + (ns.length + 1) = k + 1 + ns.length := by omega
    rw [e]
    exact this
theorem agree {b : Bk} {st : Place} {t : Place → Bool} {most : Nat} {r : Option (List Nat)} {d : Option Nat} (h1 : SRes b st t most r) (h2 : Due b st t most d) : (r = none ∧ d = none) ∨ ∃ ns, r = some ns ∧ d = some ns.length := by
  cases r with
  | none =>
    cases d with
    | none => exact .inl ⟨rfl, rfl⟩
    | some d =>
      obtain ⟨a1, ⟨x, a2, a3⟩, _⟩ := h2
      have := h1 d x a1 a2
      rw [this] at a3; cases a3
  | some ns =>
    obtain ⟨b1, ms, s', b2, b3, b4, b5⟩ := h1
    have hr := Wk.r (k := 0) (y := st) .zero b2 b4
    rw [Nat.zero_add] at hr
    cases d with
    | none =>
      have := h2 _ _ b1 hr
      rw [this] at b3; cases b3
    | some d =>
      obtain ⟨a1, ⟨x, a2, a3⟩, a4⟩ := h2
      refine .inr ⟨ns, rfl, ?_⟩
      rcases Nat.lt_trichotomy d ns.length with h | h | h
      · rw [b5 d x h a2] at a3; cases a3
      · rw [h]
      · rw [a4 _ _ h hr] at b3; cases b3
theorem rep_zs {b : Bk} (W : WB b) {S : Store} : repD (.tup [.int 0]) (.int b.T) S = some (eL (zs b), S) := by
  have h1 := W.t1
  have h2 := W.t2
  unfold repD
  simp only
  rw [if_pos ⟨by simp, by simp, by omega, by omega⟩]
  have e : (List.replicate (b.T : Int).toNat [D.int 0]).flatten = (zs b).map D.int := by
    rw [List.map_replicate]
    simp
  rw [e]
  rfl
theorem comes_ok {b : Bk} (W : WB b) (hT2 : b.T ≤ 10) {s g : Nat} {l : Lv} {most : Nat} {due : Option Nat} {S : Store} (hs : s < b.sts.length) (hl : l.length = b.T) (hd : dry l = false) (hm : most ≤ 600) {U : List Place} (hU : ∀ n x, n ≤ most + 1 → R b (s, l) n x → x ∈ U) (hz : U.length < sizeLine)
    (hD : Due b (s, l) (tgt (some g) (zs b)) most due) : f__law_comes [eB b, .int s, eL l, .int g, .int most, eG due] S = some (.bl true, S) := by
  have hT := W.t2
  have z1 : (1 : Nat) ≤ sizeLine := by rw [sizeLine_eq]; omega
  obtain ⟨r, h1, h2⟩ := cancome_ok (S := S) W (g := g) hs hl (by omega) hU hz
  refine call_ev ?_ rfl
  unfold c__law_comes
  refine Ev.seq (Ev.setN (d := eR r) (S' := S) (by simp only [cApp, cCons, cNil, cVar, nD, List.map_cons, List.map_nil, List.length_cons, List.length_nil, List.replicate, Nat.reduceSub, List.cons_append, List.nil_append, Nat.zero_add, Nat.reduceAdd, if_true, List.getElem?_cons_zero, List.getElem?_cons_succ, h2]) ?_)
  simp only [List.map_cons, List.map_nil, List.length_cons, List.length_nil, Nat.zero_add, Nat.reduceAdd, Nat.reduceSub, List.replicate, List.cons_append, List.nil_append, List.set_cons_zero, List.set_cons_succ]
  have hright : f__law_right [eB b, .int s, eL l, .int g, eL (zs b), eR r, eG due] S = some (.bl true, S) ∧ (r = none ∨ ∃ ns, r = some ns ∧ f__law_told [eB b, .int s, eL l, eN ns] S = some (.bl true, S)) := by
    rcases agree h1 hD with ⟨rfl, rfl⟩ | ⟨ns, rfl, rfl⟩
    · exact ⟨right_none, .inl rfl⟩
    · obtain ⟨b1, ms, s', b2, b3, b4, b5⟩ := h1
      simp only [tgt, Bool.and_eq_true] at b3
      exact ⟨right_some W (g := some g) hl (by simp) b2 (by omega) hd b4 b3.1 b3.2, .inr ⟨ns, rfl, told_ok W hl b2 (by omega) hT2 hd b4⟩⟩
  obtain ⟨hr1, hr2⟩ := hright
  refine Ev.seq (Ev.ifF (S' := S) (by simp only [cNot, cB, cBin, cC, mkTup, z1, ixB0, rep_zs W, cApp, cCons, cNil, cVar, nD, List.length_cons, List.length_nil, Nat.zero_add, Nat.reduceAdd, if_true, List.getElem?_cons_zero, List.getElem?_cons_succ, hr1, Bool.not_true]) (Ev.next ?_))
  refine Ev.ret (d := .bl true) (S' := S) ?_ ⟨[], by simp⟩
  rcases hr2 with rfl | ⟨ns, rfl, h⟩
  · rfl
  · simp only [cOrV, cBin, cVar, cC, isND, eR, eN, List.getElem?_cons_zero, List.getElem?_cons_succ]
    simp only [cApp, cCons, cNil, cVar, nD, List.length_cons, List.length_nil, Nat.zero_add, Nat.reduceAdd, if_true, List.getElem?_cons_zero, List.getElem?_cons_succ]
    exact h
theorem wants_ok {b : Bk} (W : WB b) (hT2 : b.T ≤ 10) {s : Nat} {l wt : Lv} {most : Nat} {due : Option Nat} {S : Store} (hs : s < b.sts.length) (hl : l.length = b.T) (hw : wt.length = b.T) (hd : dry l = false) (hm : most ≤ 600) {U : List Place} (hU : ∀ n x, n ≤ most + 1 → R b (s, l) n x → x ∈ U) (hz : U.length < sizeLine)
    (hD : Due b (s, l) (tgt none wt) most due) : f__law_wants [eB b, .int s, eL l, eL wt, .int most, eG due] S = some (.bl true, S) := by
  have hT := W.t2
  obtain ⟨r, h1, h2⟩ := fewest_ok (S := S) W (wt := wt) hs hl (by omega) hU hz
  refine call_ev ?_ rfl
  unfold c__law_wants
  refine Ev.seq (Ev.setN (d := eR r) (S' := S) (by simp only [cApp, cCons, cNil, cVar, nD, List.map_cons, List.map_nil, List.length_cons, List.length_nil, List.replicate, Nat.reduceSub, List.cons_append, List.nil_append, Nat.zero_add, Nat.reduceAdd, if_true, List.getElem?_cons_zero, List.getElem?_cons_succ, h2]) ?_)
  simp only [List.map_cons, List.map_nil, List.length_cons, List.length_nil, Nat.zero_add, Nat.reduceAdd, Nat.reduceSub, List.replicate, List.cons_append, List.nil_append, List.set_cons_zero, List.set_cons_succ]
  have hright : f__law_right [eB b, .int s, eL l, .non, eL wt, eR r, eG due] S = some (.bl true, S) ∧ (r = none ∨ ∃ ns, r = some ns ∧ f__law_told [eB b, .int s, eL l, eN ns] S = some (.bl true, S)) := by
    rcases agree h1 hD with ⟨rfl, rfl⟩ | ⟨ns, rfl, rfl⟩
    · exact ⟨right_none, .inl rfl⟩
    · obtain ⟨b1, ms, s', b2, b3, b4, b5⟩ := h1
      simp only [tgt, Bool.and_eq_true] at b3
      exact ⟨right_some W (g := none) hl hw b2 (by omega) hd b4 b3.1 b3.2, .inr ⟨ns, rfl, told_ok W hl b2 (by omega) hT2 hd b4⟩⟩
  obtain ⟨hr1, hr2⟩ := hright
  refine Ev.seq (Ev.ifF (S' := S) (by simp only [cNot, cB, cC, cApp, cCons, cNil, cVar, nD, List.length_cons, List.length_nil, Nat.zero_add, Nat.reduceAdd, if_true, List.getElem?_cons_zero, List.getElem?_cons_succ, hr1, Bool.not_true]) (Ev.next ?_))
  refine Ev.ret (d := .bl true) (S' := S) ?_ ⟨[], by simp⟩
  rcases hr2 with rfl | ⟨ns, rfl, h⟩
  · rfl
  · simp only [cOrV, cBin, cVar, cC, isND, eR, eN, List.getElem?_cons_zero, List.getElem?_cons_succ]
    simp only [cApp, cCons, cNil, cVar, nD, List.length_cons, List.length_nil, Nat.zero_add, Nat.reduceAdd, if_true, List.getElem?_cons_zero, List.getElem?_cons_succ]
    exact h
end K88

namespace K88
open PySem PySem.Spec PyProof.Rows L2 DL

/-! the law's own search, with what is weaker left out, as a plain function -/
abbrev Sn := List (Nat × List Lv)
def slook (sn : Sn) (a : Nat) : Option (List Lv) := (sn.find? fun x => decide (x.1 = a)).map (·.2)
def sput (sn : Sn) (a : Nat) (v : List Lv) : Sn := if (sn.any fun x => decide (x.1 = a)) = true then sn.map (fun x => if x.1 = a then (x.1, v) else x) else sn ++ [(a, v)]
def known (sn : Sn) (a : Nat) : List Lv := (slook sn a).getD []
theorem slook_put {a c : Nat} {v : List Lv} : ∀ {sn : Sn}, slook (sput sn a v) c = if c = a then some v else slook sn c := by
  intro sn
  unfold sput
  split
  · rename_i h
    induction sn with
    | nil => simp at h
    | cons x sn ih =>
      by_cases hx : x.1 = a
      · by_cases hc : c = a
        · subst hc; simp [slook, List.map_cons, List.find?_cons, hx]
        · have e : ∀ sn : Sn, slook (sn.map fun x => if x.1 = a then (x.1, v) else x) c = slook sn c := by
            intro sn
            induction sn with
            | nil => rfl
            | cons y sn ih2 =>
              simp only [slook, List.map_cons, List.find?_cons] at ih2 ⊢
              by_cases hy : y.1 = a
              · have : ¬ a = c := fun z => hc z.symm
                simp only [hy, if_true, this, decide_false]
                exact ih2
              · simp only [hy, if_false]
                by_cases hyc : y.1 = c
                · simp [hyc]
                · simp only [hyc, decide_false]
                  exact ih2
          rw [e, if_neg hc]
      · have hx' : (sn.any fun x => decide (x.1 = a)) = true := by simpa [hx] using h
        have := ih hx'
        by_cases hxc : x.1 = c
        · have hc : ¬ c = a := fun z => hx (hxc.trans z)
          simp [slook, List.map_cons, List.find?_cons, hx, hxc, hc]
        · simp only [slook, List.map_cons, List.find?_cons, hx, if_false, hxc, decide_false] at this ⊢
          exact this
  · rename_i h
    have hn : ∀ x ∈ sn, ¬ x.1 = a := fun x hx z => h (List.any_eq_true.mpr ⟨x, hx, by simp [z]⟩)
    unfold slook
    rw [List.find?_append]
    by_cases hc : c = a
    · subst hc
      have : sn.find? (fun x => decide (x.1 = c)) = none := List.find?_eq_none.mpr fun x hx => by simpa using hn x hx
      rw [this]
      simp
    · have hca : ¬ a = c := fun z => hc z.symm
      cases e : sn.find? (fun x => decide (x.1 = c)) with
      | some y => simp [hc]
      | none => simp [hc, hca]
theorem known_put {sn : Sn} {a c : Nat} {v : List Lv} : known (sput sn a v) c = if c = a then v else known sn c := by
  unfold known
  rw [slook_put]
  split <;> rfl
theorem keys_put {sn : Sn} {a : Nat} {v : List Lv} (h : (sn.map (·.1)).Nodup) : ((sput sn a v).map (·.1)).Nodup ∧ ∀ x ∈ (sput sn a v).map (·.1), x = a ∨ x ∈ sn.map (·.1) := by
  unfold sput
  split
  · have e : (sn.map fun x => if x.1 = a then (x.1, v) else x).map (·.1) = sn.map (·.1) := by
      rw [List.map_map]
      refine List.map_congr_left fun x _ => ?_
      show (if x.1 = a then (x.1, v) else x).1 = x.1
      split <;> rfl
    rw [e]
    exact ⟨h, fun x hx => .inr hx⟩
  · rename_i hn
    have hn' : ∀ x ∈ sn, ¬ x.1 = a := fun x hx z => hn (List.any_eq_true.mpr ⟨x, hx, by simp [z]⟩)
    rw [List.map_append]
    refine ⟨List.nodup_append.mpr ⟨h, by simp, fun x hx y hy => ?_⟩, fun x hx => ?_⟩
    · obtain ⟨z, hz, rfl⟩ := List.mem_map.mp hx
      have : y = a := by simpa using hy
      rw [this]
      exact hn' z hz
    · rcases List.mem_append.mp hx with hx | hx
      · exact .inr hx
      · exact .inl (by simpa using hx)
theorem geB_refl (a : Lv) : geB a a = true := (geB_iff rfl).mpr fun _ _ => Int.le_refl _
theorem geB_trans {T : Nat} {a c e : Lv} (h1 : a.length = T) (h2 : c.length = T) (h3 : e.length = T) (x : geB a c = true) (y : geB c e = true) : geB a e = true := by
  rw [geB_iff (by omega)] at x y ⊢
  exact fun t ht => Int.le_trans (y t (by omega)) (x t ht)
theorem dry_iff {T : Nat} {a : Lv} (h : a.length = T) : dry a = false ↔ ∀ t, t < T → 0 ≤ gt a t := by
  unfold dry
  rw [List.any_eq_false]
  refine ⟨fun hh t ht => ?_, fun hh x hx => ?_⟩
  · have := hh (a[t]'(by omega)) (List.getElem_mem _)
    have e : gt a t = a[t]'(by omega) := by simp [gt, List.getD, List.getElem?_eq_getElem (show t < a.length by omega)]
    rw [e]
    simpa using this
  · obtain ⟨i, hi, rfl⟩ := List.mem_iff_getElem.mp hx
    have := hh i (by omega)
    have e : gt a i = a[i] := by simp [gt, List.getD, hi]
    rw [e] at this
    simpa using this
theorem dry_mono {T : Nat} {a c : Lv} (h1 : a.length = T) (h2 : c.length = T) (x : geB a c = true) (y : dry c = false) : dry a = false := by
  rw [dry_iff h1]
  rw [dry_iff h2] at y
  rw [geB_iff (by omega)] at x
  exact fun t ht => Int.le_trans (y t ht) (x t (by omega))
theorem add_mono {T : Nat} {a c p : Lv} (h1 : a.length = T) (h2 : c.length = T) (h3 : p.length = T) (x : geB a c = true) : geB (add a p) (add c p) = true := by
  rw [geB_iff (by omega)] at x
  rw [geB_iff (by rw [add_len (by omega), add_len (by omega)]; omega)]
  intro t ht
  rw [add_len (by omega)] at ht
  rw [tcol h1 h3 (by omega), tcol h2 h3 (by omega)]
  have := x t ht
  omega
/-- one move looked at -/
def fst1 (to : Nat) (more : Lv) (st : Sn × List Place) : Sn × List Place :=
  if dry more = false ∧ (known st.1 to).filter (fun o => geB o more) = [] then (sput st.1 to ((known st.1 to).filter (fun o => !geB more o) ++ [more]), st.2 ++ [(to, more)]) else st
def fstM (b : Bk) (pl : Place) (st : Sn × List Place) : Sn × List Place := (mvs b pl.1).foldl (fun st m => fst1 m.to (add pl.2 m.p) st) st
def flay (b : Bk) (layer : List Place) (sn : Sn) : Sn × List Place := layer.foldl (fun st pl => fstM b pl st) (sn, [])
/-- p is as good as x -/
def dom (p x : Place) : Prop := p.1 = x.1 ∧ geB p.2 x.2 = true
/-- A: what was found before; the second: what is found now -/
structure GI (b : Bk) (st : Place) (k : Nat) (A : List Place) (s : Sn × List Place) : Prop where
  kn : ∀ a, ∀ e ∈ known s.1 a, (a, e) ∈ A ++ s.2
  up : ∀ p ∈ A ++ s.2, ∃ e ∈ known s.1 p.1, geB e p.2 = true
  r : ∀ p ∈ s.2, R b st k p
  nd : (A ++ s.2).Nodup
  knd : ∀ a, (known s.1 a).Nodup
  len : ∀ p ∈ A ++ s.2, p.1 < b.sts.length ∧ p.2.length = b.T
  ks : (s.1.map (·.1)).Nodup ∧ ∀ x ∈ s.1.map (·.1), x < b.sts.length
theorem GI.step {b : Bk} (W : WB b) {st : Place} {k : Nat} {A : List Place} {s : Sn × List Place} (h : GI b st (k + 1) A s) {q : Place} (hq : R b st k q) (hql : q.1 < b.sts.length ∧ q.2.length = b.T) {n : Nat} {m : Mv} (hm : (mvs b q.1)[n]? = some m) :
    GI b st (k + 1) A (fst1 m.to (add q.2 m.p) s) ∧ (dry (add q.2 m.p) = false → ∃ p ∈ A ++ (fst1 m.to (add q.2 m.p) s).2, dom p (m.to, add q.2 m.p)) := by
  have hml : (add q.2 m.p).length = b.T := by
    rw [add_len, hql.2]
    rw [W.mp (List.mem_of_getElem? hm), hql.2]
  have hmt := W.mt (List.mem_of_getElem? hm)
  by_cases hc : dry (add q.2 m.p) = false ∧ (known s.1 m.to).filter (fun o => geB o (add q.2 m.p)) = []
  · have e : fst1 m.to (add q.2 m.p) s = (sput s.1 m.to ((known s.1 m.to).filter (fun o => !geB (add q.2 m.p) o) ++ [add q.2 m.p]), s.2 ++ [(m.to, add q.2 m.p)]) := by
      unfold fst1
      rw [if_pos hc]
    rw [e]
    obtain ⟨hd, hf⟩ := hc
    have hno : ∀ o ∈ known s.1 m.to, ¬ geB o (add q.2 m.p) = true := List.filter_eq_nil_iff.mp hf
    have hnew : (m.to, add q.2 m.p) ∉ A ++ s.2 := fun z => by
      obtain ⟨e, h1, h2⟩ := h.up _ z
      exact hno e h1 h2
    refine ⟨⟨fun a e he => ?_, fun p hp => ?_, fun p hp => ?_, ?_, fun a => ?_, fun p hp => ?_, ?_, ?_⟩, fun _ => ⟨(m.to, add q.2 m.p), by simp, rfl, geB_refl _⟩⟩
    · rw [known_put] at he
      rw [← List.append_assoc]
      split at he
      · rename_i ha
        subst ha
        rcases List.mem_append.mp he with he | he
        · exact List.mem_append_left _ (h.kn _ e ((List.mem_filter.mp he).1))
        · rw [List.mem_singleton.mp he]; simp
      · exact List.mem_append_left _ (h.kn a e he)
    · rw [← List.append_assoc] at hp
      rw [known_put]
      rcases List.mem_append.mp hp with hp | hp
      · obtain ⟨e, h1, h2⟩ := h.up p hp
        split
        · rename_i ha
          rw [ha] at h1
          by_cases hge : geB (add q.2 m.p) e = true
          · refine ⟨add q.2 m.p, by simp, geB_trans hml ?_ (h.len p hp).2 hge h2⟩
            exact (h.len _ (h.kn _ e h1)).2
          · exact ⟨e, List.mem_append_left _ (List.mem_filter.mpr ⟨h1, by simpa using hge⟩), h2⟩
        · exact ⟨e, h1, h2⟩
      · rw [List.mem_singleton.mp hp]
        simp only [if_true]
        exact ⟨add q.2 m.p, by simp, geB_refl _⟩
    · rcases List.mem_append.mp hp with hp | hp
      · exact h.r p hp
      · rw [List.mem_singleton.mp hp]
        exact .succ hq hm hd
    · rw [← List.append_assoc]
      refine List.nodup_append.mpr ⟨h.nd, by simp, fun x hx y hy => ?_⟩
      rw [List.mem_singleton.mp hy]
      rintro rfl
      exact hnew hx
    · rw [known_put]
      split
      · refine List.nodup_append.mpr ⟨(h.knd m.to).filter _, by simp, fun x hx y hy => ?_⟩
        rw [List.mem_singleton.mp hy]
        rintro rfl
        exact hno _ ((List.mem_filter.mp hx).1) (geB_refl _)
      · exact h.knd a
    · rw [← List.append_assoc] at hp
      rcases List.mem_append.mp hp with hp | hp
      · exact h.len p hp
      · rw [List.mem_singleton.mp hp]
        exact ⟨hmt, hml⟩
    · exact (keys_put h.ks.1).1
    · intro x hx
      rcases (keys_put h.ks.1).2 x hx with rfl | hx
      · exact hmt
      · exact h.ks.2 x hx
  · have e : fst1 m.to (add q.2 m.p) s = s := by
      unfold fst1
      rw [if_neg hc]
    rw [e]
    refine ⟨h, fun hd => ?_⟩
    have : (known s.1 m.to).filter (fun o => geB o (add q.2 m.p)) ≠ [] := fun z => hc ⟨hd, z⟩
    obtain ⟨o, ho⟩ := List.exists_mem_of_ne_nil _ this
    obtain ⟨h1, h2⟩ := List.mem_filter.mp ho
    exact ⟨(m.to, o), h.kn _ o h1, rfl, h2⟩
theorem fst1_grow {to : Nat} {more : Lv} {s : Sn × List Place} {x : Place} (h : x ∈ s.2) : x ∈ (fst1 to more s).2 := by
  unfold fst1
  split
  · exact List.mem_append_left _ h
  · exact h
theorem fstM_grow {b : Bk} {pl : Place} {s : Sn × List Place} {x : Place} (h : x ∈ s.2) : x ∈ (fstM b pl s).2 := foldl_inv (fun s : Sn × List Place => x ∈ s.2) _ s h fun _ _ _ hs => fst1_grow hs
/-- invariant and what is done, at once, over a list -/
theorem foldl_both {α β : Type} {f : β → α → β} (P : β → Prop) (Q : α → β → Prop) : ∀ (xs : List α) (s : β), P s → (∀ x ∈ xs, ∀ s, P s → P (f s x) ∧ Q x (f s x)) → (∀ x y s, Q x s → Q x (f s y)) → P (xs.foldl f s) ∧ ∀ x ∈ xs, Q x (xs.foldl f s)
  | [], s, h, _, _ => ⟨h, by simp⟩
  | y :: ys, s, h, hs, hm => by
    obtain ⟨h1, h2⟩ := hs y (by simp) s h
    obtain ⟨i1, i2⟩ := foldl_both P Q ys (f s y) h1 (fun x hx => hs x (by simp [hx])) hm
    refine ⟨i1, fun x hx => ?_⟩
    rcases List.mem_cons.mp hx with rfl | hx
    · exact foldl_inv (Q x) ys (f s x) h2 fun z _ s h => hm x z s h
    · exact i2 x hx
theorem flay_ok {b : Bk} (W : WB b) {st : Place} {k : Nat} {A layer : List Place} {sn : Sn} (h : GI b st (k + 1) A (sn, [])) (hr : ∀ p ∈ layer, R b st k p) (hl : ∀ p ∈ layer, p.1 < b.sts.length ∧ p.2.length = b.T) :
    GI b st (k + 1) A (flay b layer sn) ∧ ∀ q ∈ layer, ∀ (n : Nat) (m : Mv), (mvs b q.1)[n]? = some m → dry (add q.2 m.p) = false → ∃ p ∈ A ++ (flay b layer sn).2, dom p (m.to, add q.2 m.p) := by
  refine foldl_both (f := fun st pl => fstM b pl st) (GI b st (k + 1) A) (fun (q : Place) (s : Sn × List Place) => ∀ (n : Nat) (m : Mv), (mvs b q.1)[n]? = some m → dry (add q.2 m.p) = false → ∃ p ∈ A ++ s.2, dom p (m.to, add q.2 m.p)) layer (sn, []) h (fun q hq s hs => ?_) fun x y s hx n m hm hd => ?_
  · obtain ⟨i1, i2⟩ := foldl_both (f := fun st (m : Mv) => fst1 m.to (add q.2 m.p) st) (GI b st (k + 1) A) (fun (m : Mv) (s : Sn × List Place) => dry (add q.2 m.p) = false → ∃ p ∈ A ++ s.2, dom p (m.to, add q.2 m.p)) (mvs b q.1) s hs
      (fun m hm s hs => by
        obtain ⟨n, hn⟩ := List.mem_iff_getElem?.mp hm
        exact hs.step W (hr q hq) (hl q hq) hn)
      (fun x y s hx hd => let ⟨p, h1, h2⟩ := hx hd; ⟨p, (List.mem_append.mp h1).elim (List.mem_append_left _) fun z => List.mem_append_right _ (fst1_grow z), h2⟩)
    exact ⟨i1, fun n m hm hd => i2 m (List.mem_of_getElem? hm) hd⟩
  · obtain ⟨p, h1, h2⟩ := hx n m hm hd
    exact ⟨p, (List.mem_append.mp h1).elim (List.mem_append_left _) fun z => List.mem_append_right _ (fstM_grow z), h2⟩
/-- where the law's search stands before round k -/
structure FI (b : Bk) (st : Place) (t : Place → Bool) (k : Nat) (olds layer : List Place) (sn : Sn) : Prop where
  gi : GI b st (k + 1) (olds ++ layer) (sn, [])
  lay : ∀ p ∈ layer, R b st k p
  all : ∀ n x, n ≤ k → R b st n x → ∃ p ∈ olds ++ layer, dom p x
  bef : ∀ n x, n < k → R b st n x → ∃ p ∈ olds, dom p x
  not : ∀ p ∈ olds, t p = false
  clo : ∀ p ∈ olds, ∀ (n : Nat) (m : Mv), (mvs b p.1)[n]? = some m → dry (add p.2 m.p) = false → ∃ q ∈ olds ++ layer, dom q (m.to, add p.2 m.p)
  some_ : ∀ p ∈ olds ++ layer, ∃ n, n ≤ k ∧ R b st n p
theorem dom_trans {T : Nat} {p q x : Place} (h1 : p.2.length = T) (h2 : q.2.length = T) (h3 : x.2.length = T) (a : dom p q) (c : dom q x) : dom p x := ⟨a.1.trans c.1, geB_trans h1 h2 h3 a.2 c.2⟩
/-- a better place has better moves -/
theorem dom_move {b : Bk} (W : WB b) {p y : Place} (hp : p.2.length = b.T) (hy : y.2.length = b.T) (d : dom p y) {n : Nat} {m : Mv} (hm : (mvs b y.1)[n]? = some m) (hd : dry (add y.2 m.p) = false) : (mvs b p.1)[n]? = some m ∧ dry (add p.2 m.p) = false ∧ geB (add p.2 m.p) (add y.2 m.p) = true := by
  have hpm := W.mp (List.mem_of_getElem? hm)
  have hg := add_mono hp hy hpm d.2
  refine ⟨by rw [d.1]; exact hm, dry_mono (T := b.T) (by rw [add_len (by omega)]; exact hp) (by rw [add_len (by omega)]; exact hy) hg hd, hg⟩
theorem FI.step {b : Bk} (W : WB b) {st : Place} (hs : st.1 < b.sts.length) (hl : st.2.length = b.T) {t : Place → Bool} {k : Nat} {olds layer : List Place} {sn : Sn} (h : FI b st t k olds layer sn) (hn : ∀ p ∈ layer, t p = false) :
    FI b st t (k + 1) (olds ++ layer) (flay b layer sn).2 (flay b layer sn).1 := by
  have hlen : ∀ p ∈ olds ++ layer, p.1 < b.sts.length ∧ p.2.length = b.T := fun p hp => h.gi.len p (by simpa using hp)
  obtain ⟨g, gd⟩ := flay_ok W h.gi h.lay fun p hp => hlen p (List.mem_append_right _ hp)
  have clo' : ∀ p ∈ olds ++ layer, ∀ (n : Nat) (m : Mv), (mvs b p.1)[n]? = some m → dry (add p.2 m.p) = false → ∃ q ∈ olds ++ layer ++ (flay b layer sn).2, dom q (m.to, add p.2 m.p) := fun p hp n m hm hd => by
    rcases List.mem_append.mp hp with hp | hp
    · obtain ⟨q, h1, h2⟩ := h.clo p hp n m hm hd
      exact ⟨q, List.mem_append_left _ h1, h2⟩
    · exact gd p hp n m hm hd
  refine ⟨⟨fun a e he => by simpa using g.kn a e he, fun p hp => g.up p (by simpa using hp), by simp, by simpa using g.nd, g.knd, fun p hp => g.len p (by simpa using hp), g.ks⟩, g.r, fun n x hnk hr => ?_, fun n x hnk hr => h.all n x (by omega) hr, fun p hp => ?_, clo', fun p hp => ?_⟩
  · by_cases hle : n ≤ k
    · obtain ⟨p, h1, h2⟩ := h.all n x hle hr
      exact ⟨p, List.mem_append_left _ h1, h2⟩
    · have : n = k + 1 := by omega
      subst this
      have hxw := hr.wf W hs hl
      cases hr with
      | @succ _ y i m hr hm hd =>
        have hyw := hr.wf W hs hl
        obtain ⟨p, h1, h2⟩ := h.all k y (Nat.le_refl _) hr
        obtain ⟨m1, m2, m3⟩ := dom_move W (hlen p h1).2 hyw.2 h2 hm hd
        obtain ⟨q, q1, q2⟩ := clo' p h1 i m m1 m2
        have hpm := W.mp (List.mem_of_getElem? hm)
        refine ⟨q, q1, dom_trans (T := b.T) (g.len q q1).2 ?_ hxw.2 q2 ⟨rfl, m3⟩⟩
        show (add p.2 m.p).length = b.T
        rw [add_len (by rw [hpm, (hlen p h1).2])]
        exact (hlen p h1).2
  · rcases List.mem_append.mp hp with hp | hp
    · exact h.not p hp
    · exact hn p hp
  · rcases List.mem_append.mp hp with hp | hp
    · obtain ⟨n, h1, h2⟩ := h.some_ p hp
      exact ⟨n, by omega, h2⟩
    · exact ⟨k + 1, Nat.le_refl _, g.r p hp⟩
/-- nothing new: nothing more will come -/
theorem FI.stop {b : Bk} (W : WB b) {st : Place} (hs : st.1 < b.sts.length) (hl : st.2.length = b.T) {t : Place → Bool} {k : Nat} {olds : List Place} {sn : Sn} (h : FI b st t k olds [] sn) {n : Nat} {x : Place} (hr : R b st n x) : ∃ p ∈ olds, dom p x := by
  have hlen : ∀ p ∈ olds, p.1 < b.sts.length ∧ p.2.length = b.T := fun p hp => h.gi.len p (by simpa using hp)
  induction hr with
  | zero => simpa using h.all 0 st (Nat.zero_le _) .zero
  | @succ k' y i m hr hm hd ih =>
    obtain ⟨p, h1, h2⟩ := ih
    have hyw := hr.wf W hs hl
    obtain ⟨m1, m2, m3⟩ := dom_move W (hlen p h1).2 hyw.2 h2 hm hd
    obtain ⟨q, q1, q2⟩ := h.clo p h1 i m m1 m2
    rw [List.append_nil] at q1
    have hpm := W.mp (List.mem_of_getElem? hm)
    refine ⟨q, q1, dom_trans (T := b.T) (hlen q q1).2 ?_ ?_ q2 ⟨rfl, m3⟩⟩
    · show (add p.2 m.p).length = b.T
      rw [add_len (by rw [hpm, (hlen p h1).2])]
      exact (hlen p h1).2
    · show (add y.2 m.p).length = b.T
      rw [add_len (by rw [hpm, hyw.2])]
      exact hyw.2
theorem tgt_mono {g : Option Nat} {wt : Lv} {T : Nat} (hw : wt.length = T) {p x : Place} (h1 : p.2.length = T) (h2 : x.2.length = T) (d : dom p x) (h : tgt g wt p = false) : tgt g wt x = false := by
  cases hx : tgt g wt x with
  | false => rfl
  | true =>
    simp only [tgt, Bool.and_eq_true] at hx
    have : tgt g wt p = true := by
      simp only [tgt, Bool.and_eq_true]
      exact ⟨by rw [d.1]; exact hx.1, geB_trans h1 h2 hw d.2 hx.2⟩
    rw [this] at h
    cases h
theorem fi_start {b : Bk} {st : Place} {t : Place → Bool} (hs : st.1 < b.sts.length) (hl : st.2.length = b.T) : FI b st t 0 [] [st] [(st.1, [st.2])] := by
  have hk : ∀ a, known [(st.1, [st.2])] a = if a = st.1 then [st.2] else [] := fun a => by
    unfold known slook
    by_cases h : st.1 = a
    · subst h; simp
    · have : ¬ a = st.1 := fun z => h z.symm
      simp [h, this]
  refine ⟨⟨fun a e he => ?_, fun p hp => ?_, by simp, by simp, fun a => ?_, fun p hp => ?_, by simp, by simpa using hs⟩, fun p hp => ?_, fun n x hn hr => ?_, fun n x hn => by omega, by simp, by simp, fun p hp => ?_⟩
  · rw [hk] at he
    split at he
    · rename_i ha
      subst ha
      rw [List.mem_singleton.mp he]
      simp
    · simp at he
  · have hp : p = st := by simpa using hp
    subst hp
    rw [hk]
    exact ⟨p.2, by simp, geB_refl _⟩
  · rw [hk]
    split <;> simp
  · have hp : p = st := by simpa using hp
    subst hp
    exact ⟨hs, hl⟩
  · rw [List.mem_singleton.mp hp]; exact .zero
  · have : n = 0 := by omega
    subst this
    cases hr
    exact ⟨st, by simp, rfl, geB_refl _⟩
  · have hp : p = st := by simpa using hp
    subst hp
    exact ⟨0, Nat.le_refl _, .zero⟩
end K88

namespace K88
open PySem PySem.Spec PyProof.Rows L2 DL

def eSn (sn : Sn) : List (Key × D) := sn.map fun x => (Sum.inl (x.1 : Int), .lst (x.2.map eL))
theorem inl_inj {a c : Nat} : (Sum.inl (a : Int) : Key) = Sum.inl (c : Int) ↔ a = c := by
  constructor
  · intro h
    have := Sum.inl.inj h
    omega
  · intro h; rw [h]
theorem kLook_eSn (a : Nat) : ∀ sn : Sn, kLook (eSn sn) (.inl (a : Int)) = (slook sn a).map fun ls => .lst (ls.map eL)
  | [] => rfl
  | x :: sn => by
    have ih := kLook_eSn a sn
    by_cases h : x.1 = a
    · have h' : (Sum.inl (x.1 : Int) : Key) = Sum.inl (a : Int) := inl_inj.mpr h
      simp [eSn, kLook, slook, h]
    · have h' : ¬ (Sum.inl (x.1 : Int) : Key) = Sum.inl (a : Int) := fun z => h (inl_inj.mp z)
      have e1 : kLook (eSn (x :: sn)) (.inl (a : Int)) = kLook (eSn sn) (.inl (a : Int)) := by
        simp only [eSn, kLook, List.map_cons, List.find?_cons, h', decide_false]
      have e2 : slook (x :: sn) a = slook sn a := by simp only [slook, List.find?_cons, h, decide_false]
      rw [e1, e2, ih]
theorem kPut_eSn (a : Nat) (v : List Lv) (sn : Sn) : kPut (eSn sn) (.inl (a : Int)) (.lst (v.map eL)) = eSn (sput sn a v) := by
  have e : ((eSn sn).any fun kv => decide (kv.1 = Sum.inl (a : Int))) = sn.any fun x => decide (x.1 = a) := by
    rw [eSn, List.any_map]
    congr 1
    funext x
    show decide ((Sum.inl (x.1 : Int) : Key) = Sum.inl (a : Int)) = decide (x.1 = a)
    rw [decide_eq_decide]
    exact inl_inj
  unfold kPut sput
  rw [e]
  split
  · rw [eSn, eSn, List.map_map, List.map_map]
    refine List.map_congr_left fun x _ => ?_
    show (if (Sum.inl (x.1 : Int) : Key) = Sum.inl (a : Int) then ((Sum.inl (x.1 : Int) : Key), D.lst (v.map eL)) else (Sum.inl (x.1 : Int), .lst (x.2.map eL))) = _
    by_cases h : x.1 = a
    · rw [if_pos (inl_inj.mpr h)]
      simp [h]
    · rw [if_neg fun z => h (inl_inj.mp z)]
      simp [h]
  · simp [eSn]
/-- the store while fresh is made -/
abbrev fto (S T : Store) (st : Sn × List Place) : Store := S ++ .dK false (eSn st.1) :: (T ++ [.lst (st.2.map eP)])
section
variable {S T : Store} {st : Sn × List Place}
theorem fto_k : (fto S T st)[S.length]? = some (.dK false (eSn st.1)) := by simp
theorem fto_e : (fto S T st)[S.length + (T.length + 1)]? = some (.lst (st.2.map eP)) := by
  rw [List.getElem?_append_right (by omega)]
  simp
theorem fto_setk (sn : Sn) : (fto S T st).set S.length (.dK false (eSn sn)) = fto S T (sn, st.2) := by
  rw [List.set_append_right _ _ (by omega)]
  simp
theorem fto_sete (f : List Place) : (fto S T st).set (S.length + (T.length + 1)) (.lst (f.map eP)) = fto S T (st.1, f) := by
  rw [List.set_append_right _ _ (by omega)]
  simp
theorem fto_dead : (fto S T st).set (S.length + (T.length + 1)) .dead = S ++ .dK false (eSn st.1) :: (T ++ [.dead]) := by
  rw [List.set_append_right _ _ (by omega)]
  simp
end
theorem minL_dry {x : Lv} (hne : x ≠ []) : decide (0 ≤ minL x) = !dry x := by
  have hs := minL_spec hne
  cases h : dry x with
  | false =>
    have := minL_ok h hne
    simp
    omega
  | true =>
    unfold dry at h
    obtain ⟨y, h1, h2⟩ := List.any_eq_true.mp h
    have := hs.2 y h1
    simp at h2 ⊢
    omega
theorem Ev.dput {co ci ce : DE} {ρ : Env'} {S S1 S2 S3 S4 : Store} {d x y : D} {Post : Fl → Prop} (hv : ce ρ S = some (d, S1)) (ho : co ρ S1 = some (x, S2)) (hi : ci ρ S2 = some (y, S3)) (hp : putD S3 x y d = some S4) (q : Post (.nx ρ S4)) : Ev (sDPutC co ci ce) ρ S Post :=
  ⟨_, by simp only [sDPutC, hv, ho, hi, hp], q⟩
/-- the step on data: one move -/
theorem fewest_move {b : Bk} (W : WB b) {st : Place} {k : Nat} {A : List Place} {s2 : Sn × List Place} (hG : GI b st (k + 1) A s2) {q : Place} (hql : q.1 < b.sts.length ∧ q.2.length = b.T) {n : Nat} {m : Mv} (hm : (mvs b q.1)[n]? = some m)
    (hsz : ∀ a, (known s2.1 a).length ≤ 2000000) (hfz : s2.2.length ≤ 2000000) (hsn : s2.1.length ≤ 1000) {S T : Store} {x1 x2 x3 x4 x5 x6 x8 x9 x12 x15 x16 : Option D} {P : Fl → Prop}
    (hP : ∀ y15 y16, P (.nx [some (eB b), x1, x2, x3, x4, x5, x6, some (.ref S.length), x8, x9, some (eL q.2), some (.ref (S.length + (T.length + 1))), x12, some (eL m.p), some (.int m.to), y15, y16, none, none] (fto S T (fst1 m.to (add q.2 m.p) s2)))) :
    Ev (sSeq (sSet (gN 15) (cApp tupleD (cCons (cLC [17] false (cRng1 (cBin ixD (cVar 0) (cC (.int 0)))) (lt1 (gN 17) tYesD (cBin addD (cBin ixD (cVar 10) (cVar 17)) (cBin ixD (cVar 13) (cVar 17))))) cNil)))
      (sSeq (sSet (gN 16) (cApp dGet2D (cCons (cUn isDictD (cVar 7)) (cCons (cVar 14) (cCons (cApp mkLst cNil) cNil)))))
      (sIf (cAnd (cB (cBin geD (cApp min2D (cCons (cVar 15) cNil)) (cC (.int 0)))) (cB (cBin eqD (cApp lenD (cCons (cLC [18] false (cItS (cVar 16)) (lt1 (gN 18) (cB (cApp (nD 2 f__law_least) (cCons (cVar 18) (cCons (cVar 15) cNil)))) (cVar 18))) cNil)) (cC (.int 0))))) (sSeq (sDPutC (cVar 7) (cVar 14) (cBin addD (cLC [18] false (cItS (cVar 16)) (lt1 (gN 18) (cNot (cB (cApp (nD 2 f__law_least) (cCons (cVar 15) (cCons (cVar 18) cNil))))) (cVar 18))) (cApp mkLst (cCons (cVar 15) cNil))))
      (sExpr (cM apnd (cVar 11) (cCons (cApp mkTup (cCons (cVar 14) (cCons (cVar 15) cNil))) cNil)))) sNext)))
      [some (eB b), x1, x2, x3, x4, x5, x6, some (.ref S.length), x8, x9, some (eL q.2), some (.ref (S.length + (T.length + 1))), x12, some (eL m.p), some (.int m.to), x15, x16, none, none] (fto S T s2) P := by
  have hT := W.t2
  have z1 : (1 : Nat) ≤ sizeLine := by rw [sizeLine_eq]; omega
  have z2 : (2 : Nat) ≤ sizeLine := by rw [sizeLine_eq]; omega
  have hpm := W.mp (List.mem_of_getElem? hm)
  have hml : (add q.2 m.p).length = b.T := by rw [add_len (by omega)]; exact hql.2
  have hne : add q.2 m.p ≠ [] := ne_of_len hml W.t1
  have hkl : ∀ e ∈ known s2.1 m.to, e.length = b.T := fun e he => (hG.len _ (hG.kn _ e he)).2
  have hc := cLC_map (S := fto S T s2) (ρ := [some (eB b), x1, x2, x3, x4, x5, x6, some (.ref S.length), x8, x9, some (eL q.2), some (.ref (S.length + (T.length + 1))), x12, some (eL m.p), some (.int m.to), x15, x16, none, none]) (vs := [17])
    (ci := cRng1 (cBin ixD (cVar 0) (cC (.int 0)))) (g := gN 17) (e := cBin addD (cBin ixD (cVar 10) (cVar 17)) (cBin ixD (cVar 13) (cVar 17)))
    (l := List.range b.T) (fun i => D.int (i : Nat)) (fun t => .int (gt q.2 t + gt m.p t)) (rng1 (n := b.T) (by simp [sSeq, sSet, sRet, sExpr, sIf, gN, gT, gsCons, gsNil, cVar, cC, cBin, cUn, cNil, cCons, cApp, cB, cTr, cAnd, cOr, cNot, cV, cAndV, cOrV, cNotV, cIf, nD, mkTup, mkLst, mkBox, asQ, asL, negD, addD, subD, cmpD, isND, notND, eqD, neD, eqS, lenD, tupleD, DL.intD, cM, apnd, popM, sPar, sPar3, sNext, sAug, ipD, ixB0]) (by omega)) rfl (small (by simp; omega))
    (fun r hr => ⟨_, rfl, by
      have h1 := List.mem_range.mp hr
      simp [sSeq, sSet, sRet, sExpr, sIf, gN, gT, gsCons, gsNil, cVar, cC, cBin, cUn, cNil, cCons, cApp, cB, cTr, cAnd, cOr, cNot, cV, cAndV, cOrV, cNotV, cIf, nD, mkTup, mkLst, mkBox, asQ, asL, negD, addD, subD, cmpD, isND, notND, eqD, neD, eqS, lenD, tupleD, DL.intD, cM, apnd, popM, sPar, sPar3, sNext, sAug, ipD, wipeD, ixL (l := q.2) (t := r) (by omega), ixL (l := m.p) (t := r) (by omega)]⟩)
  rw [add_map hql.2 hpm] at hc
  refine Ev.seq (Ev.setN (d := eL (add q.2 m.p)) (S' := fto S T s2) (by simp only [cApp, cCons, cNil, hc, tupleD, asQ, asL]; rfl) ?_)
  simp only [List.set_cons_zero, List.set_cons_succ]
  have hlk : lookD (fto S T s2) (.ref S.length) (.int (m.to : Nat)) = some ((slook s2.1 m.to).map fun ls => .lst (ls.map eL)) := by
    unfold lookD
    simp only [fto_k, keyK, Option.map_some, kLook_eSn]
  refine Ev.seq (Ev.setN (d := .lst ((known s2.1 m.to).map eL)) (S' := fto S T s2) (by
    simp only [cApp, cCons, cNil, cUn, cVar, mkLst, isDictD, fto_k, List.getElem?_cons_zero, List.getElem?_cons_succ, List.length_nil, Nat.zero_le, if_true, dGet2D, hlk]
    unfold known
    cases slook s2.1 m.to <;> rfl) ?_)
  simp only [List.set_cons_zero, List.set_cons_succ]
  have hc2 := cLC_fm (S := fto S T s2) (ρ := [some (eB b), x1, x2, x3, x4, x5, x6, some (.ref S.length), x8, x9, some (eL q.2), some (.ref (S.length + (T.length + 1))), x12, some (eL m.p), some (.int m.to), some (eL (add q.2 m.p)), some (.lst ((known s2.1 m.to).map eL)), none, none]) (vs := [18])
    (ci := cItS (cVar 16)) (g := gN 18) (t := cB (cApp (nD 2 f__law_least) (cCons (cVar 18) (cCons (cVar 15) cNil)))) (e := cVar 18) (l := known s2.1 m.to) eL (fun o => geB o (add q.2 m.p)) eL
    (by simp only [cItS, cVar, List.getElem?_cons_zero, List.getElem?_cons_succ, itSeq, Option.map_some]) rfl (by rw [sizeLine_eq]; have := hsz m.to; omega)
    (fun o ho => ⟨_, rfl, by simp [sSeq, sSet, sRet, sExpr, sIf, gN, gT, gsCons, gsNil, cVar, cC, cBin, cUn, cNil, cCons, cApp, cB, cTr, cAnd, cOr, cNot, cV, cAndV, cOrV, cNotV, cIf, nD, mkTup, mkLst, mkBox, asQ, asL, negD, addD, subD, cmpD, isND, notND, eqD, neD, eqS, lenD, tupleD, DL.intD, cM, apnd, popM, sPar, sPar3, sNext, sAug, ipD, wipeD, least_ok (a := o) (c := add q.2 m.p) (by rw [hkl o ho, hml]) (by rw [hkl o ho]; omega)], fun _ => by simp [sSeq, sSet, sRet, sExpr, sIf, gN, gT, gsCons, gsNil, cVar, cC, cBin, cUn, cNil, cCons, cApp, cB, cTr, cAnd, cOr, cNot, cV, cAndV, cOrV, cNotV, cIf, nD, mkTup, mkLst, mkBox, asQ, asL, negD, addD, subD, cmpD, isND, notND, eqD, neD, eqS, lenD, tupleD, DL.intD, cM, apnd, popM, sPar, sPar3, sNext, sAug, ipD, wipeD]⟩)
  have hcond : (cAnd (cB (cBin geD (cApp min2D (cCons (cVar 15) cNil)) (cC (.int 0)))) (cB (cBin eqD (cApp lenD (cCons (cLC [18] false (cItS (cVar 16)) (lt1 (gN 18) (cB (cApp (nD 2 f__law_least) (cCons (cVar 18) (cCons (cVar 15) cNil)))) (cVar 18))) cNil)) (cC (.int 0)))))
      [some (eB b), x1, x2, x3, x4, x5, x6, some (.ref S.length), x8, x9, some (eL q.2), some (.ref (S.length + (T.length + 1))), x12, some (eL m.p), some (.int m.to), some (eL (add q.2 m.p)), some (.lst ((known s2.1 m.to).map eL)), none, none] (fto S T s2)
      = some (!dry (add q.2 m.p) && decide (((known s2.1 m.to).filter (fun o => geB o (add q.2 m.p))).length = 0), fto S T s2) := by
    have e0 : ∀ n : Nat, decide ((n : Int) = 0) = decide (n = 0) := fun n => by rw [decide_eq_decide]; omega
    have hmd := minL_dry hne
    cases hdr : dry (add q.2 m.p) with
    | true =>
      rw [hdr] at hmd
      simp only [Bool.not_true] at hmd
      simp only [cAnd, cB, cBin, cApp, cCons, cNil, cVar, cC, List.getElem?_cons_zero, List.getElem?_cons_succ, min_eL hne, cmpD, hmd, Bool.not_true, Bool.false_and]
    | false =>
      rw [hdr] at hmd
      simp only [Bool.not_false] at hmd
      simp only [cAnd, cB, cBin, cVar, cC, List.getElem?_cons_zero, List.getElem?_cons_succ]
      have e1 : cApp lenD (cCons (cLC [18] false (cItS (cVar 16)) (lt1 (gN 18) (cB (cApp (nD 2 f__law_least) (cCons (cVar 18) (cCons (cVar 15) cNil)))) (cVar 18))) cNil) [some (eB b), x1, x2, x3, x4, x5, x6, some (.ref S.length), x8, x9, some (eL q.2), some (.ref (S.length + (T.length + 1))), x12, some (eL m.p), some (.int m.to), some (eL (add q.2 m.p)), some (.lst ((known s2.1 m.to).map eL)), none, none] (fto S T s2)
          = some (.int ((known s2.1 m.to).filter (fun o => geB o (add q.2 m.p))).length, fto S T s2) := by
        rw [cApp, cCons1 hc2]
        simp only [lenD, asQ, asL, List.length_map]
      have e2 : cApp min2D (cCons (cVar 15) cNil) [some (eB b), x1, x2, x3, x4, x5, x6, some (.ref S.length), x8, x9, some (eL q.2), some (.ref (S.length + (T.length + 1))), x12, some (eL m.p), some (.int m.to), some (eL (add q.2 m.p)), some (.lst ((known s2.1 m.to).map eL)), none, none] (fto S T s2) = some (.int (minL (add q.2 m.p)), fto S T s2) := by
        rw [cApp, cCons1 (x := eL (add q.2 m.p)) rfl]
        simp only [min_eL hne]
      rw [e2]
      simp only [cmpD, hmd]
      rw [e1]
      simp only [eqD, eqS, Option.map_some, e0, Bool.not_false, Bool.true_and]
  refine Ev.ite hcond (fun ht => ?_) fun hf => ?_
  · simp only [Bool.and_eq_true, Bool.not_eq_true', decide_eq_true_eq] at ht
    obtain ⟨ht1, ht2⟩ := ht
    have est : fst1 m.to (add q.2 m.p) s2 = (sput s2.1 m.to ((known s2.1 m.to).filter (fun o => !geB (add q.2 m.p) o) ++ [add q.2 m.p]), s2.2 ++ [(m.to, add q.2 m.p)]) := by
      unfold fst1
      rw [if_pos ⟨ht1, List.length_eq_zero_iff.mp ht2⟩]
    rw [est] at hP
    have hc3 := cLC_fm (S := fto S T s2) (ρ := [some (eB b), x1, x2, x3, x4, x5, x6, some (.ref S.length), x8, x9, some (eL q.2), some (.ref (S.length + (T.length + 1))), x12, some (eL m.p), some (.int m.to), some (eL (add q.2 m.p)), some (.lst ((known s2.1 m.to).map eL)), none, none]) (vs := [18])
      (ci := cItS (cVar 16)) (g := gN 18) (t := cNot (cB (cApp (nD 2 f__law_least) (cCons (cVar 15) (cCons (cVar 18) cNil))))) (e := cVar 18) (l := known s2.1 m.to) eL (fun o => !geB (add q.2 m.p) o) eL
      (by simp only [cItS, cVar, List.getElem?_cons_zero, List.getElem?_cons_succ, itSeq, Option.map_some]) rfl (by rw [sizeLine_eq]; have := hsz m.to; omega)
      (fun o ho => ⟨_, rfl, by simp [sSeq, sSet, sRet, sExpr, sIf, gN, gT, gsCons, gsNil, cVar, cC, cBin, cUn, cNil, cCons, cApp, cB, cTr, cAnd, cOr, cNot, cV, cAndV, cOrV, cNotV, cIf, nD, mkTup, mkLst, mkBox, asQ, asL, negD, addD, subD, cmpD, isND, notND, eqD, neD, eqS, lenD, tupleD, DL.intD, cM, apnd, popM, sPar, sPar3, sNext, sAug, ipD, wipeD, least_ok (a := add q.2 m.p) (c := o) (by rw [hkl o ho, hml]) (by rw [hml]; omega)], fun _ => by simp [sSeq, sSet, sRet, sExpr, sIf, gN, gT, gsCons, gsNil, cVar, cC, cBin, cUn, cNil, cCons, cApp, cB, cTr, cAnd, cOr, cNot, cV, cAndV, cOrV, cNotV, cIf, nD, mkTup, mkLst, mkBox, asQ, asL, negD, addD, subD, cmpD, isND, notND, eqD, neD, eqS, lenD, tupleD, DL.intD, cM, apnd, popM, sPar, sPar3, sNext, sAug, ipD, wipeD]⟩)
    have hfl : ((known s2.1 m.to).filter (fun o => !geB (add q.2 m.p) o)).length ≤ 2000000 := Nat.le_trans (List.length_filter_le _ _) (hsz m.to)
    have e4 : ((known s2.1 m.to).filter (fun o => !geB (add q.2 m.p) o)).map eL ++ [eL (add q.2 m.p)] = ((known s2.1 m.to).filter (fun o => !geB (add q.2 m.p) o) ++ [add q.2 m.p]).map eL := by simp
    have hadd : addD (.lst (((known s2.1 m.to).filter (fun o => !geB (add q.2 m.p) o)).map eL)) (.lst [eL (add q.2 m.p)]) (fto S T s2) = some (.lst (((known s2.1 m.to).filter (fun o => !geB (add q.2 m.p) o) ++ [add q.2 m.p]).map eL), fto S T s2) := by
      simp only [addD, asL, List.length_map, List.length_cons, List.length_nil]
      rw [if_pos (by rw [sizeLine_eq]; omega), e4]
    have hput : putD (fto S T s2) (.ref S.length) (.int (m.to : Nat)) (.lst (((known s2.1 m.to).filter (fun o => !geB (add q.2 m.p) o) ++ [add q.2 m.p]).map eL)) = some (fto S T (sput s2.1 m.to ((known s2.1 m.to).filter (fun o => !geB (add q.2 m.p) o) ++ [add q.2 m.p]), s2.2)) := by
      unfold putD
      simp only [fto_k, keyK]
      rw [if_pos (by rw [sizeLine_eq]; simp only [eSn, List.length_map]; omega), kPut_eSn, fto_setk]
    have hval : (cBin addD (cLC [18] false (cItS (cVar 16)) (lt1 (gN 18) (cNot (cB (cApp (nD 2 f__law_least) (cCons (cVar 15) (cCons (cVar 18) cNil))))) (cVar 18))) (cApp mkLst (cCons (cVar 15) cNil))) [some (eB b), x1, x2, x3, x4, x5, x6, some (.ref S.length), x8, x9, some (eL q.2), some (.ref (S.length + (T.length + 1))), x12, some (eL m.p), some (.int m.to), some (eL (add q.2 m.p)), some (.lst ((known s2.1 m.to).map eL)), none, none] (fto S T s2)
        = some (.lst (((known s2.1 m.to).filter (fun o => !geB (add q.2 m.p) o) ++ [add q.2 m.p]).map eL), fto S T s2) := by
      rw [cBin, hc3]
      simp only [cApp, cCons1 (x := eL (add q.2 m.p)) (S1 := fto S T s2) (a := cVar 15) (S := fto S T s2) (ρ := [some (eB b), x1, x2, x3, x4, x5, x6, some (.ref S.length), x8, x9, some (eL q.2), some (.ref (S.length + (T.length + 1))), x12, some (eL m.p), some (.int m.to), some (eL (add q.2 m.p)), some (.lst ((known s2.1 m.to).map eL)), none, none]) rfl, mkLst, List.length_cons, List.length_nil, Nat.zero_add, z1, if_true, hadd]
    refine Ev.seq (Ev.dput hval (by rfl) (by rfl) hput ?_)
    refine Ev.expr (d := .non) (S' := fto S T (sput s2.1 m.to ((known s2.1 m.to).filter (fun o => !geB (add q.2 m.p) o) ++ [add q.2 m.p]), s2.2 ++ [(m.to, add q.2 m.p)])) ?_ (hP _ _)
    have hlt : (s2.2.map eP).length < sizeLine := by rw [List.length_map, sizeLine_eq]; omega
    have e3 : s2.2.map eP ++ [D.tup [.int (m.to : Nat), eL (add q.2 m.p)]] = (s2.2 ++ [(m.to, add q.2 m.p)]).map eP := by simp [eP]
    simp only [cM, cVar, cCons, cNil, cApp, mkTup, List.getElem?_cons_zero, List.getElem?_cons_succ, fto_e, List.length_cons, List.length_nil, Nat.zero_add, Nat.reduceAdd, z2, if_true, apnd, hlt, e3, fto_sete]
  · have est : fst1 m.to (add q.2 m.p) s2 = s2 := by
      unfold fst1
      rw [if_neg]
      rintro ⟨a1, a2⟩
      rw [a1, a2] at hf
      simp at hf
    rw [est] at hP
    exact Ev.next (hP _ _)
end K88

namespace K88
open PySem PySem.Spec PyProof.Rows L2 DL

theorem Ev.par {i j : Nat} {a : DA} {ρ : Env'} {S S' : Store} {x y : D} {Post : Fl → Prop} (h : a ρ S = some ([x, y], S')) (q : Post (.nx ((ρ.set i (some x)).set j (some y)) S')) : Ev (sPar i j a) ρ S Post := ⟨_, by simp only [sPar, h], q⟩
theorem nodup_pair {l : List Lv} {a : Nat} (h : l.Nodup) : (l.map fun e => ((a, e) : Place)).Nodup := by
  refine List.Pairwise.map _ (fun x y hxy => ?_) h
  intro z
  exact hxy (Prod.mk.inj z).2
theorem GI.sizes {b : Bk} {st : Place} {k : Nat} {A : List Place} {s : Sn × List Place} (h : GI b st k A s) (W : WB b) {U : List Place} (hA : ∀ p ∈ A, p ∈ U) (hF : ∀ p, R b st k p → p ∈ U) : (∀ a, (known s.1 a).length ≤ U.length) ∧ s.2.length ≤ U.length ∧ s.1.length ≤ 1000 := by
  have hin : ∀ p ∈ A ++ s.2, p ∈ U := fun p hp => by
    rcases List.mem_append.mp hp with hp | hp
    · exact hA p hp
    · exact hF p (h.r p hp)
  refine ⟨fun a => ?_, ?_, ?_⟩
  · have := nodup_le ((known s.1 a).map fun e => ((a, e) : Place)) U (nodup_pair (h.knd a)) fun x hx => by
      obtain ⟨e, he, rfl⟩ := List.mem_map.mp hx
      exact hin _ (h.kn a e he)
    simpa using this
  · exact nodup_le s.2 U (List.nodup_append.mp h.nd).2.1 fun x hx => hin x (List.mem_append_right _ hx)
  · have := nodup_le (s.1.map (·.1)) (List.range b.sts.length) h.ks.1 fun x hx => List.mem_range.mpr (h.ks.2 x hx)
    have h2 := W.n
    simp at this
    omega
theorem fewestL_ok {b : Bk} (W : WB b) {s : Nat} {l wt : Lv} {g : Option Nat} {most : Nat} {S : Store} (hs : s < b.sts.length) (hl : l.length = b.T) (hw : wt.length = b.T) (hm : most ≤ 1000) {U : List Place} (hU : ∀ n x, n ≤ most + 1 → R b (s, l) n x → x ∈ U) (hz : U.length ≤ 2000000) :
    ∃ d, Due b (s, l) (tgt g wt) most d ∧ f__law_fewest [eB b, .int s, eL l, eG g, eL wt, .int most] S = some (eG d, S) := by
  have hT := W.t2
  have z1 : (1 : Nat) ≤ sizeLine := by rw [sizeLine_eq]; omega
  have z2 : (2 : Nat) ≤ sizeLine := by rw [sizeLine_eq]; omega
  have hbG : ∀ d : Option Nat, below 0 (eG d) = true := fun d => by cases d <;> rfl
  have key : Ev c__law_fewest ([eB b, .int s, eL l, eG g, eL wt, .int most].map some ++ List.replicate (19 - 6) none) S (fun f => ∃ d T, f = .rt (eG d) (S ++ T) ∧ Due b (s, l) (tgt g wt) most d) := by
    unfold c__law_fewest
    refine Ev.seq (Ev.par (x := .lst ([(s, l)].map eP)) (y := .ref S.length) (S' := S ++ .dK false (eSn [(s, [l])]) :: []) ?_ ?_)
    · simp only [cCons, cNil, cApp, mkLst, mkTup, cDisp, cVar, List.map_cons, List.map_nil, List.cons_append, List.nil_append, List.getElem?_cons_zero, List.getElem?_cons_succ, List.length_cons, List.length_nil, Nat.zero_add, Nat.reduceAdd, z1, z2, if_true, Bool.false_eq_true, if_false, keyK]
      rfl
    simp only [List.map_cons, List.map_nil, List.length_cons, List.length_nil, Nat.zero_add, Nat.reduceAdd, Nat.reduceSub, List.replicate, List.cons_append, List.nil_append, List.set_cons_zero, List.set_cons_succ]
    refine Ev.seq (Ev.for_ (S' := S ++ .dK false (eSn [(s, [l])]) :: []) (fun n : Nat => .int (n : Nat)) (fun rem ρ S' => ∃ k olds layer sn T x8 x9 x10 x11 x12 x13 x14 x15 x16, rem = List.range' k (most + 1 - k) ∧ k ≤ most + 1 ∧ ρ = [some (eB b), some (.int s), some (eL l), some (eG g), some (eL wt), some (.int most), some (.lst (layer.map eP)), some (.ref S.length), x8, x9, x10, x11, x12, x13, x14, x15, x16, none, none] ∧ S' = S ++ .dK false (eSn sn) :: T ∧ FI b (s, l) (tgt g wt) k olds layer sn)
      (rng1 (n := most + 1) (by simp [sSeq, sSet, sRet, sExpr, sIf, gN, gT, gsCons, gsNil, cVar, cC, cBin, cUn, cNil, cCons, cApp, cB, cTr, cAnd, cOr, cNot, cV, cAndV, cOrV, cNotV, cIf, nD, mkTup, mkLst, mkBox, asQ, asL, negD, addD, subD, cmpD, isND, notND, eqD, neD, eqS, lenD, tupleD, DL.intD, cM, apnd, popM, sPar, sPar3, sNext, sAug, ipD]) (by omega)) rfl ⟨0, [], [(s, l)], [(s, [l])], [], none, none, none, none, none, none, none, none, none, by rw [List.range_eq_range']; simp, Nat.zero_le _, rfl, rfl, fi_start hs hl⟩ ?_ ?_)
    · rintro lap rem ρ S' ⟨k, olds, layer, sn, T, x8, x9, x10, x11, x12, x13, x14, x15, x16, hr, hk, rfl, rfl, hF⟩
      obtain ⟨rfl, hlt, rfl⟩ := rng_at hr hk
      have hwf : ∀ p ∈ olds ++ layer, p.1 < b.sts.length ∧ p.2.length = b.T := fun p hp => hF.gi.len p (by simpa using hp)
      refine ⟨_, rfl, ?_⟩
      -- is one of them what is wanted?
      refine Ev.seq (Ev.for_ (S' := S ++ .dK false (eSn sn) :: T) eP (fun rem2 ρ S' => ∃ pre x9 x10, layer = pre ++ rem2 ∧ (∀ p ∈ pre, tgt g wt p = false) ∧ ρ = [some (eB b), some (.int s), some (eL l), some (eG g), some (eL wt), some (.int most), some (.lst (layer.map eP)), some (.ref S.length), some (.int lap), x9, x10, x11, x12, x13, x14, x15, x16, none, none] ∧ S' = S ++ .dK false (eSn sn) :: T)
        (xs := layer.map eP) (by simp [cItS, cVar, itSeq]) rfl ⟨[], x9, x10, rfl, by simp, rfl, rfl⟩ ?_ ?_)
      · rintro p rem2 ρ S' ⟨pre, x9, x10, hlay, hpre, rfl, rfl⟩
        have hpl : p ∈ layer := by rw [hlay]; simp
        obtain ⟨hp1, hp2⟩ := hwf p (List.mem_append_right _ hpl)
        refine ⟨[some (eB b), some (.int s), some (eL l), some (eG g), some (eL wt), some (.int most), some (.lst (layer.map eP)), some (.ref S.length), some (.int lap), some (.int p.1), some (eL p.2), x11, x12, x13, x14, x15, x16, none, none], by simp [gT, gsCons, gN, gsNil, eP], ?_⟩
        have hle := least_ok (S := S ++ .dK false (eSn sn) :: T) (a := p.2) (c := wt) (by omega) (by omega)
        have hcond : (cAnd (cOr (cB (cBin isND (cVar 3) (cC .non))) (cB (cBin eqD (cVar 9) (cVar 3)))) (cB (cApp (nD 2 f__law_least) (cCons (cVar 10) (cCons (cVar 4) cNil)))))
            [some (eB b), some (.int s), some (eL l), some (eG g), some (eL wt), some (.int most), some (.lst (layer.map eP)), some (.ref S.length), some (.int lap), some (.int p.1), some (eL p.2), x11, x12, x13, x14, x15, x16, none, none] (S ++ .dK false (eSn sn) :: T) = some (tgt g wt p, S ++ .dK false (eSn sn) :: T) := by
          cases g with
          | none => simp only [cAnd, cOr, cB, cBin, cVar, cC, isND, eG, cApp, cCons, cNil, nD, List.length_cons, List.length_nil, Nat.zero_add, Nat.reduceAdd, if_true, List.getElem?_cons_zero, List.getElem?_cons_succ, hle, tgt, gok, Bool.true_and]
          | some g =>
            by_cases hpg : p.1 = g
            · have e : decide ((p.1 : Int) = (g : Int)) = true := by simp [hpg]
              simp only [cAnd, cOr, cB, cBin, cVar, cC, isND, eG, cApp, cCons, cNil, nD, List.length_cons, List.length_nil, Nat.zero_add, Nat.reduceAdd, if_true, List.getElem?_cons_zero, List.getElem?_cons_succ, eqD, eqS, Option.map_some, e, hle, tgt, gok, hpg, decide_true, Bool.true_and]
            · have e : decide ((p.1 : Int) = (g : Int)) = false := by
                simp only [decide_eq_false_iff_not]
                omega
              simp only [cAnd, cOr, cB, cBin, cVar, cC, isND, eG, List.getElem?_cons_zero, List.getElem?_cons_succ, eqD, eqS, Option.map_some, e, tgt, gok, hpg, decide_false, Bool.false_and]
        refine Ev.ite hcond (fun ht => ?_) fun hf => Ev.next ⟨pre ++ [p], _, _, by rw [hlay]; simp, fun y hy => ?_, rfl, rfl⟩
        · refine Ev.ret (d := .int lap) (S' := S ++ .dK false (eSn sn) :: T) rfl ⟨some lap, _, rfl, by omega, ⟨p, hF.lay p hpl, ht⟩, fun n x hn hr => ?_⟩
          obtain ⟨q, q1, q2⟩ := hF.bef n x hn hr
          exact tgt_mono hw (hwf q (List.mem_append_left _ q1)).2 (hr.wf W hs hl).2 q2 (hF.not q q1)
        · rcases List.mem_append.mp hy with hy | hy
          · exact hpre y hy
          · rw [List.mem_singleton.mp hy]; exact hf
      · rintro ρ S' ⟨pre, x9, x10, hlay, hpre, rfl, rfl⟩
        rw [List.append_nil] at hlay
        subst hlay
        have hF' := hF.step W hs hl hpre
        have hA : ∀ p ∈ olds ++ layer, p ∈ U := fun p hp => let ⟨n, h1, h2⟩ := hF.some_ p hp; hU n p (by omega) h2
        have hFr : ∀ p, R b (s, l) (lap + 1) p → p ∈ U := fun p hp => hU (lap + 1) p (by omega) hp
        refine Ev.seq (Ev.setN (d := .ref (S.length + (T.length + 1))) (S' := fto S T (sn, [])) (by
          simp only [cApp, cNil, mkBox, List.length_nil, Nat.zero_le, if_true, List.length_append, List.length_cons]
          simp) ?_)
        simp only [List.set_cons_zero, List.set_cons_succ]
        refine Ev.seq (Ev.for_ (S' := fto S T (sn, [])) eP (fun rem2 ρ S' => ∃ s2 x9 x10 x12 x13 x14 x15 x16, ρ = [some (eB b), some (.int s), some (eL l), some (eG g), some (eL wt), some (.int most), some (.lst (layer.map eP)), some (.ref S.length), some (.int lap), x9, x10, some (.ref (S.length + (T.length + 1))), x12, x13, x14, x15, x16, none, none] ∧ S' = fto S T s2 ∧ GI b (s, l) (lap + 1) (olds ++ layer) s2 ∧ rem2.foldl (fun st pl => fstM b pl st) s2 = flay b layer sn ∧ ∀ p ∈ rem2, p ∈ layer)
          (xs := layer.map eP) (by simp [cItS, cVar, itSeq]) rfl ⟨(sn, []), x9, x10, x12, x13, x14, x15, x16, rfl, rfl, hF.gi, rfl, fun _ h => h⟩ ?_ ?_)
        · rintro q rem2 ρ S' ⟨s2, x9, x10, x12, x13, x14, x15, x16, rfl, rfl, hG, hf, hin⟩
          have hql := hwf q (List.mem_append_right _ (hin q (by simp)))
          have hqr := hF.lay q (hin q (by simp))
          rw [List.foldl_cons] at hf
          obtain ⟨x, hx, hmx⟩ := ixSt hql.1
          refine ⟨[some (eB b), some (.int s), some (eL l), some (eG g), some (eL wt), some (.int most), some (.lst (layer.map eP)), some (.ref S.length), some (.int lap), some (.int q.1), some (eL q.2), some (.ref (S.length + (T.length + 1))), x12, x13, x14, x15, x16, none, none], by simp [gT, gsCons, gN, gsNil, eP], ?_⟩
          refine Ev.for_ (S' := fto S T s2) eM (fun r2 ρ S' => ∃ s3 x12 x13 x14 x15 x16, ρ = [some (eB b), some (.int s), some (eL l), some (eG g), some (eL wt), some (.int most), some (.lst (layer.map eP)), some (.ref S.length), some (.int lap), some (.int q.1), some (eL q.2), some (.ref (S.length + (T.length + 1))), x12, x13, x14, x15, x16, none, none] ∧ S' = fto S T s3 ∧ GI b (s, l) (lap + 1) (olds ++ layer) s3 ∧ r2.foldl (fun st (m : Mv) => fst1 m.to (add q.2 m.p) st) s3 = fstM b q s2 ∧ ∀ m ∈ r2, m ∈ mvs b q.1)
            (xs := (mvs b q.1).map eM) (by simp only [cItS, cBin, cVar, cC, List.getElem?_cons_zero, List.getElem?_cons_succ, ixB1, hx, ixS1, itSeq, Option.map_some, hmx]) rfl ⟨s2, x12, x13, x14, x15, x16, rfl, rfl, hG, rfl, fun _ h => h⟩ ?_ ?_
          · rintro m r2 ρ S' ⟨s3, x12, x13, x14, x15, x16, rfl, rfl, hG3, hf3, hin3⟩
            obtain ⟨n, hn⟩ := List.mem_iff_getElem?.mp (hin3 m (by simp))
            rw [List.foldl_cons] at hf3
            obtain ⟨c1, c2, c3⟩ := hG3.sizes W hA hFr
            refine ⟨[some (eB b), some (.int s), some (eL l), some (eG g), some (eL wt), some (.int most), some (.lst (layer.map eP)), some (.ref S.length), some (.int lap), some (.int q.1), some (eL q.2), some (.ref (S.length + (T.length + 1))), some (.str m.w), some (eL m.p), some (.int m.to), x15, x16, none, none], by simp [gT, gsCons, gN, gsNil, eM], ?_⟩
            exact fewest_move W hG3 hql hn (fun a => Nat.le_trans (c1 a) hz) (Nat.le_trans c2 hz) c3 fun y15 y16 => ⟨_, _, _, _, _, _, rfl, rfl, (hG3.step W hqr hql hn).1, hf3, fun m hm => hin3 m (by simp [hm])⟩
          · rintro ρ S' ⟨s3, x12, x13, x14, x15, x16, rfl, rfl, hG3, hf3, hin3⟩
            simp only [List.foldl_nil] at hf3
            subst hf3
            exact ⟨_, _, _, _, _, _, _, _, rfl, rfl, hG3, hf, fun p hp => hin p (by simp [hp])⟩
        · rintro ρ S' ⟨s2, x9, x10, x12, x13, x14, x15, x16, rfl, rfl, hG, hf, hin⟩
          simp only [List.foldl_nil] at hf
          subst hf
          refine Ev.seq (Ev.setN (d := .lst ((flay b layer sn).2.map eP)) (S' := S ++ .dK false (eSn (flay b layer sn).1) :: (T ++ [.dead])) (by simp only [cFrz, cVar, List.getElem?_cons_zero, List.getElem?_cons_succ, fto_e, fto_dead]) ?_)
          simp only [List.set_cons_zero, List.set_cons_succ]
          have hc : (cB (cBin eqD (cApp lenD (cCons (cVar 6) cNil)) (cC (.int 0)))) [some (eB b), some (.int s), some (eL l), some (eG g), some (eL wt), some (.int most), some (.lst ((flay b layer sn).2.map eP)), some (.ref S.length), some (.int lap), x9, x10, some (.ref (S.length + (T.length + 1))), x12, x13, x14, x15, x16, none, none] (S ++ .dK false (eSn (flay b layer sn).1) :: (T ++ [.dead])) = some (decide (((flay b layer sn).2.length : Int) = 0), S ++ .dK false (eSn (flay b layer sn).1) :: (T ++ [.dead])) := by
            simp only [cB, cBin, cApp, cCons, cNil, cVar, cC, List.getElem?_cons_zero, List.getElem?_cons_succ, lenD, asQ, asL, List.length_map, eqD, eqS, Option.map_some]
          refine Ev.ite hc (fun ht => Ev.brk ?_) fun hf => Ev.next ⟨lap + 1, _, _, _, _, _, _, _, _, _, _, _, _, _, rfl, hlt, rfl, rfl, hF'⟩
          have hnil : (flay b layer sn).2 = [] := by
            have : ((flay b layer sn).2.length : Int) = 0 := of_decide_eq_true ht
            exact List.length_eq_zero_iff.mp (by omega)
          refine Ev.ret (d := .non) (S' := S ++ .dK false (eSn (flay b layer sn).1) :: (T ++ [.dead])) rfl ⟨none, _, rfl, fun n x hn hr => ?_⟩
          rw [hnil] at hF'
          obtain ⟨p, p1, p2⟩ := hF'.stop W hs hl hr
          exact tgt_mono hw (hwf p p1).2 (hr.wf W hs hl).2 p2 (hF'.not p p1)
    · rintro ρ S' ⟨k, olds, layer, sn, T, x8, x9, x10, x11, x12, x13, x14, x15, x16, hr, hk, rfl, rfl, hF⟩
      have hkm : k = most + 1 := by
        have := congrArg List.length hr
        simp at this
        omega
      subst hkm
      refine Ev.ret (d := .non) (S' := S ++ .dK false (eSn sn) :: T) rfl ⟨none, _, rfl, fun n x hn hr => ?_⟩
      obtain ⟨p, p1, p2⟩ := hF.bef n x (by omega) hr
      exact tgt_mono hw (hF.gi.len p (by simp [p1])).2 (hr.wf W hs hl).2 p2 (hF.not p p1)
  obtain ⟨f, e, d, T, rfl, hd⟩ := key
  exact ⟨d, hd, call_rt e (hbG d)⟩
end K88

namespace K88
open PySem PySem.Spec PyProof.Rows L2 DL

/-! how many places there are -/
def boxes (M : Nat) : Nat → List Lv
  | 0 => [[]]
  | T + 1 => (List.range (M + 1)).flatMap fun (x : Nat) => (boxes M T).map fun v => ((x : Nat) : Int) :: v
theorem flatMap_len {α β : Type} {f : α → List β} {c : Nat} : ∀ {l : List α}, (∀ x ∈ l, (f x).length = c) → (l.flatMap f).length = l.length * c
  | [], _ => by simp
  | x :: l, h => by
    rw [List.flatMap_cons, List.length_append, flatMap_len (l := l) fun y hy => h y (by simp [hy]), h x (by simp), List.length_cons, Nat.add_mul]
    omega
theorem boxes_len (M : Nat) : ∀ T, (boxes M T).length = (M + 1) ^ T
  | 0 => rfl
  | T + 1 => by
    rw [boxes, flatMap_len (c := (M + 1) ^ T) fun x _ => by rw [List.length_map, boxes_len M T], List.length_range, Nat.pow_succ, Nat.mul_comm]
theorem in_boxes {M : Nat} : ∀ {T : Nat} {v : Lv}, v.length = T → (∀ y ∈ v, 0 ≤ y ∧ y ≤ M) → v ∈ boxes M T
  | 0, [], _, _ => by simp [boxes]
  | 0, _ :: _, h, _ => by simp at h
  | T + 1, [], h, _ => by simp at h
  | T + 1, y :: v, h, hy => by
    have h1 := hy y (by simp)
    rw [boxes, List.mem_flatMap]
    refine ⟨y.toNat, List.mem_range.mpr (by omega), List.mem_map.mpr ⟨v, in_boxes (by simpa using h) fun z hz => hy z (by simp [hz]), ?_⟩⟩
    congr 1
    omega
theorem add_mem : ∀ {l p : Lv} {y : Int}, y ∈ add l p → ∃ a ∈ l, ∃ c ∈ p, y = a + c
  | [], _, y, h => by simp [add] at h
  | _ :: _, [], y, h => by simp [add] at h
  | a :: l, c :: p, y, h => by
    have h' : y = a + c ∨ y ∈ add l p := by simpa [add] using h
    rcases h' with rfl | h'
    · exact ⟨a, by simp, c, by simp, rfl⟩
    · obtain ⟨a', h1, c', h2, h3⟩ := add_mem h'
      exact ⟨a', by simp [h1], c', by simp [h2], h3⟩
theorem R.le {b : Bk} {st : Place} {base g : Nat} (hb : ∀ y ∈ st.2, y ≤ (base : Int)) (hg : ∀ s, ∀ m ∈ mvs b s, ∀ y ∈ m.p, y ≤ (g : Int)) {n : Nat} {x : Place} (h : R b st n x) : ∀ y ∈ x.2, y ≤ ((base + n * g : Nat) : Int) := by
  induction h with
  | zero => simpa using hb
  | @succ k y i m _ hm _ ih =>
    intro z hz
    obtain ⟨a, h1, c, h2, rfl⟩ := add_mem hz
    have := ih a h1
    have := hg y.1 m (List.mem_of_getElem? hm) c h2
    have e : base + (k + 1) * g = base + k * g + g := by rw [Nat.add_mul]; omega
    rw [e]
    omega
theorem R.nn {b : Bk} {st : Place} (hd : dry st.2 = false) {n : Nat} {x : Place} (h : R b st n x) : dry x.2 = false := by
  cases h with
  | zero => exact hd
  | succ _ _ h => exact h
theorem univ {b : Bk} (W : WB b) {s : Nat} {l : Lv} (hs : s < b.sts.length) (hl : l.length = b.T) (hd : dry l = false) {base g : Nat} (hb : ∀ y ∈ l, y ≤ (base : Int)) (hg : ∀ s, ∀ m ∈ mvs b s, ∀ y ∈ m.p, y ≤ (g : Int)) (N : Nat) :
    ∃ U : List Place, U.length = b.sts.length * (base + N * g + 1) ^ b.T ∧ ∀ n x, n ≤ N → R b (s, l) n x → x ∈ U := by
  refine ⟨(List.range b.sts.length).flatMap fun s => (boxes (base + N * g) b.T).map fun v => (s, v), ?_, fun n x hn hr => ?_⟩
  · rw [flatMap_len (c := (base + N * g + 1) ^ b.T) fun x _ => by rw [List.length_map, boxes_len], List.length_range]
  · obtain ⟨h1, h2⟩ := hr.wf W hs hl
    rw [List.mem_flatMap]
    refine ⟨x.1, List.mem_range.mpr h1, List.mem_map.mpr ⟨x.2, in_boxes h2 fun y hy => ⟨?_, ?_⟩, rfl⟩⟩
    · have := hr.nn hd
      unfold dry at this
      rw [List.any_eq_false] at this
      have := this y hy
      simpa using this
    · have := hr.le hb hg y hy
      have h3 : n * g ≤ N * g := Nat.mul_le_mul_right _ hn
      omega

/-! draws -/
def dv (ds : List Int) (i : Int) : Int := (ds[i.toNat]?).getD 0
abbrev eDs (ds : List Int) : D := .lst (ds.map D.int)
theorem ixDs {ds : List Int} {i : Int} (h0 : 0 ≤ i) (h1 : i < ds.length) {S : Store} : ixD (eDs ds) (.int i) S = some (.int (dv ds i), S) := by
  have e : (ds.map D.int)[i.toNat]? = some (.int (dv ds i)) := by
    rw [List.getElem?_map, List.getElem?_eq_getElem (by omega)]
    simp [dv, List.getElem?_eq_getElem (show i.toNat < ds.length by omega)]
  have e2 := atI_nat e
  rw [Int.toNat_of_nonneg h0] at e2
  rw [ix_lst, e2]
  rfl
/-- a remainder, as a natural number -/
def md (a : Int) (n : Nat) : Nat := (a.fmod n).toNat
theorem md_eq {a : Int} {n : Nat} (h : 0 < n) : a.fmod n = ((md a n : Nat) : Int) := (Int.toNat_of_nonneg (Int.fmod_nonneg_of_pos _ (by omega))).symm
theorem md_lt {a : Int} {n : Nat} (h : 0 < n) : md a n < n := by
  have h1 := Int.fmod_lt_of_pos a (b := (n : Int)) (by omega)
  have := md_eq (a := a) h
  omega
theorem mod_md {a : Int} {n : Nat} (h : 0 < n) {S : Store} : modD (.int a) (.int n) S = some (.int (md a n : Nat), S) := by
  have hne : ((n : Nat) : Int) ≠ 0 := by omega
  simp only [modD, hne, ne_eq, not_false_eq_true, if_true, md_eq h]
theorem int1 {a : Int} {S : Store} : DL.intD [.int a] S = some (.int a, S) := rfl
end K88

namespace K88
open PySem PySem.Spec PyProof.Rows L2 DL

theorem lit64 : ∀ a : Int, a = 4 ∨ a = 8 ∨ a = 12 ∨ a = 17 → -(2 ^ 64) < a ∧ a < 2 ^ 64 := by
  rintro a (rfl | rfl | rfl | rfl) <;> decide +kernel
theorem mul_lit {a b : Int} (h : a = 4 ∨ a = 8 ∨ a = 12 ∨ a = 17) {S : Store} : mulD (.int a) (.int b) S = some (.int (a * b), S) := by
  simp only [mulD]
  rw [if_pos (show inM a b from .inl (lit64 a h))]
theorem word_ok {m : Nat} (hm : m < 3) {i : Nat} (hi : i < 10) : ∃ z : Str, ∀ S : Store, ∃ w : Str, ixD (.lst [.str "u", .str "v", .str "w"]) (.int m) S = some (.str w, S) ∧ strD [.int i] S = some (.str (toString (i : Int)), S) ∧ addD (.str w) (.str (toString (i : Int))) S = some (.str z, S) := by
  have h3 : ∀ w : Str, w.length ≤ 1 → ∀ i : Nat, i < 10 → w.length + (toString (i : Int) : Str).length ≤ sizeLine := by
    intro w hw i hi
    have h10 : (toString (i : Int) : Str).length ≤ 10 := by
      have : i = 0 ∨ i = 1 ∨ i = 2 ∨ i = 3 ∨ i = 4 ∨ i = 5 ∨ i = 6 ∨ i = 7 ∨ i = 8 ∨ i = 9 := by omega
      rcases this with rfl | rfl | rfl | rfl | rfl | rfl | rfl | rfl | rfl | rfl <;> decide +kernel
    rw [sizeLine_eq]
    omega
  have hs : ∀ S : Store, strD [.int i] S = some (.str (toString (i : Int)), S) := fun S => by
    simp only [strD]
    rw [if_pos]
    have : i = 0 ∨ i = 1 ∨ i = 2 ∨ i = 3 ∨ i = 4 ∨ i = 5 ∨ i = 6 ∨ i = 7 ∨ i = 8 ∨ i = 9 := by omega
    rcases this with rfl | rfl | rfl | rfl | rfl | rfl | rfl | rfl | rfl | rfl <;> decide +kernel
  have hw : ∃ w : Str, w.length ≤ 1 ∧ ∀ S : Store, ixD (.lst [.str "u", .str "v", .str "w"]) (.int m) S = some (.str w, S) := by
    have : m = 0 ∨ m = 1 ∨ m = 2 := by omega
    rcases this with rfl | rfl | rfl
    · exact ⟨"u", by decide +kernel, fun _ => rfl⟩
    · exact ⟨"v", by decide +kernel, fun _ => rfl⟩
    · exact ⟨"w", by decide +kernel, fun _ => rfl⟩
  obtain ⟨w, w1, w2⟩ := hw
  refine ⟨w ++ toString (i : Int), fun S => ⟨w, w2 S, hs S, ?_⟩⟩
  simp only [addD]
  rw [if_pos (h3 w w1 i hi)]
theorem name_ok {i : Nat} (hi : i < 2) : ∃ z : Str, ∀ S : Store, ixD (.lst [.str "house", .str "outside"]) (.int i) S = some (.str z, S) := by
  have : i = 0 ∨ i = 1 := by omega
  rcases this with rfl | rfl
  · exact ⟨"house", fun _ => rfl⟩
  · exact ⟨"outside", fun _ => rfl⟩
structure GM (T many : Nat) (m : Mv) : Prop where
  p : m.p.length = T
  to : m.to < many
  le : ∀ y ∈ m.p, y ≤ (3 : Int)
def GS (T many : Nat) (x : Str × List Mv) : Prop := x.2.length ≤ 3 ∧ ∀ m ∈ x.2, GM T many m
theorem book_ok {ds : List Int} (hd : 100 ≤ ds.length) {T many : Nat} (hT1 : 1 ≤ T) (hT2 : T ≤ 2) (hm1 : 1 ≤ many) (hm2 : many ≤ 4) {S : Store} :
    ∃ b : Bk, WB b ∧ b.T = T ∧ b.sts.length = many ∧ (∀ s, ∀ m ∈ mvs b s, ∀ y ∈ m.p, y ≤ ((3 : Nat) : Int)) ∧ f__law_book [eDs ds, .int T, .int many] S = some (eB b, S) := by
  have z2 : (2 : Nat) ≤ sizeLine := by rw [sizeLine_eq]; omega
  have z3 : (3 : Nat) ≤ sizeLine := by rw [sizeLine_eq]; omega
  have key : Ev c__law_book ([eDs ds, .int T, .int many].map some ++ List.replicate (10 - 3) none) S (fun f => ∃ sts Tj, f = .rt (eB ⟨T, sts⟩) (S ++ Tj) ∧ sts.length = many ∧ ∀ x ∈ sts, GS T many x) := by
    unfold c__law_book
    refine Ev.seq (Ev.setN (d := .ref S.length) (S' := S ++ .lst (([] : List (Str × List Mv)).map eS) :: []) (by simp [sSeq, sSet, sRet, sExpr, sIf, gN, gT, gsCons, gsNil, cVar, cC, cBin, cUn, cNil, cCons, cApp, cB, cTr, cAnd, cOr, cNot, cV, cAndV, cOrV, cNotV, cIf, nD, mkTup, mkLst, mkBox, asQ, asL, negD, addD, subD, cmpD, isND, notND, eqD, neD, eqS, lenD, tupleD, DL.intD, cM, apnd, popM, sPar, sPar3, sNext, sAug, ipD]) ?_)
    refine Ev.seq (Ev.for_ (S' := S ++ .lst (([] : List (Str × List Mv)).map eS) :: []) (fun n : Nat => .int (n : Nat)) (fun rem ρ S' => ∃ j sts Tj x4 x5 x6 x7 x8, rem = List.range' j (many - j) ∧ j ≤ many ∧ ρ = [some (eDs ds), some (.int T), some (.int many), some (.ref S.length), x4, x5, x6, x7, x8, none] ∧ S' = S ++ .lst (sts.map eS) :: Tj ∧ sts.length = j ∧ ∀ x ∈ sts, GS T many x)
      (rng1 (n := many) (by simp [sSeq, sSet, sRet, sExpr, sIf, gN, gT, gsCons, gsNil, cVar, cC, cBin, cUn, cNil, cCons, cApp, cB, cTr, cAnd, cOr, cNot, cV, cAndV, cOrV, cNotV, cIf, nD, mkTup, mkLst, mkBox, asQ, asL, negD, addD, subD, cmpD, isND, notND, eqD, neD, eqS, lenD, tupleD, DL.intD, cM, apnd, popM, sPar, sPar3, sNext, sAug, ipD]) (by omega)) rfl ⟨0, [], [], none, none, none, none, none, by rw [List.range_eq_range']; simp, Nat.zero_le _, rfl, rfl, rfl, by simp⟩ ?_ ?_)
    · rintro s rem ρ S' ⟨j, sts, Tj, x4, x5, x6, x7, x8, hr, hj, rfl, rfl, hlen, hgs⟩
      obtain ⟨rfl, hlt, rfl⟩ := rng_at hr hj
      refine ⟨_, rfl, ?_⟩
      refine Ev.seq (Ev.setN (d := .ref (S.length + (Tj.length + 1))) (S' := S ++ .lst (sts.map eS) :: (Tj ++ [.lst (([] : List Mv).map eM)])) (by
        simp only [cApp, cNil, mkBox, List.length_nil, Nat.zero_le, if_true, List.length_append, List.length_cons]
        simp) ?_)
      simp only [List.set_cons_zero, List.set_cons_succ]
      have hcnt : md (dv ds (8 * (s : Int))) 4 < 4 := md_lt (by omega)
      refine Ev.seq (Ev.for_ (S' := S ++ .lst (sts.map eS) :: (Tj ++ [.lst (([] : List Mv).map eM)])) (fun n : Nat => .int (n : Nat)) (fun rem2 ρ S' => ∃ i ms x6 x7 x8, rem2 = List.range' i (md (dv ds (8 * (s : Int))) 4 - i) ∧ i ≤ md (dv ds (8 * (s : Int))) 4 ∧ ρ = [some (eDs ds), some (.int T), some (.int many), some (.ref S.length), some (.int s), some (.ref (S.length + (Tj.length + 1))), x6, x7, x8, none] ∧ S' = S ++ .lst (sts.map eS) :: (Tj ++ [.lst (ms.map eM)]) ∧ ms.length = i ∧ ∀ m ∈ ms, GM T many m)
        (rng1 (n := md (dv ds (8 * (s : Int))) 4) (by
          simp only [cBin, cApp, cCons, cNil, cVar, cC, List.getElem?_cons_zero, List.getElem?_cons_succ, mul_lit (a := 8) (by simp), ixDs (ds := ds) (i := 8 * (s : Int)) (by omega) (by omega), int1]
          exact mod_md (n := 4) (by omega)) (by omega)) rfl ⟨0, [], x6, x7, x8, by rw [List.range_eq_range']; simp, Nat.zero_le _, rfl, rfl, rfl, by simp⟩ ?_ ?_)
      · rintro m rem2 ρ S' ⟨i, ms, x6, x7, x8, hr2, hi, rfl, rfl, hml, hgm⟩
        obtain ⟨rfl, hlt2, rfl⟩ := rng_at hr2 hi
        refine ⟨_, rfl, ?_⟩
        have hc := cLC_map (S := S ++ .lst (sts.map eS) :: (Tj ++ [.lst (ms.map eM)])) (ρ := [some (eDs ds), some (.int T), some (.int many), some (.ref S.length), some (.int s), some (.ref (S.length + (Tj.length + 1))), some (.int m), x7, x8, none]) (vs := [9])
          (ci := cRng1 (cVar 1)) (g := gN 9) (e := cBin subD (cBin modD (cApp DL.intD (cCons (cBin ixD (cVar 0) (cBin addD (cBin addD (cBin addD (cC (.int 40)) (cBin mulD (cC (.int 12)) (cVar 4))) (cBin mulD (cC (.int 4)) (cVar 6))) (cVar 9))) cNil)) (cC (.int 7))) (cC (.int 3)))
          (l := List.range T) (fun i => D.int (i : Nat)) (fun t => .int (((md (dv ds (40 + 12 * (s : Int) + 4 * (m : Int) + (t : Int))) 7 : Nat) : Int) - 3)) (rng1 (n := T) (by simp [sSeq, sSet, sRet, sExpr, sIf, gN, gT, gsCons, gsNil, cVar, cC, cBin, cUn, cNil, cCons, cApp, cB, cTr, cAnd, cOr, cNot, cV, cAndV, cOrV, cNotV, cIf, nD, mkTup, mkLst, mkBox, asQ, asL, negD, addD, subD, cmpD, isND, notND, eqD, neD, eqS, lenD, tupleD, DL.intD, cM, apnd, popM, sPar, sPar3, sNext, sAug, ipD]) (by omega)) rfl (small (by simp; omega))
          (fun t ht => ⟨_, rfl, by
            have h1 := List.mem_range.mp ht
            have hmd := mod_md (a := dv ds (40 + 12 * (s : Int) + 4 * (m : Int) + (t : Int))) (n := 7) (by omega) (S := S ++ .lst (sts.map eS) :: (Tj ++ [.lst (ms.map eM)]))
            have hmd' : modD (.int (dv ds (40 + 12 * (s : Int) + 4 * (m : Int) + (t : Int)))) (.int 7) (S ++ .lst (sts.map eS) :: (Tj ++ [.lst (ms.map eM)])) = _ := hmd
            simp only [wipeD, cBin, cApp, cCons, cNil, cVar, cC, List.set_cons_zero, List.set_cons_succ, List.getElem?_cons_zero, List.getElem?_cons_succ, mul_lit (a := 12) (by simp), mul_lit (a := 4) (by simp), addD, ixDs (ds := ds) (i := 40 + 12 * (s : Int) + 4 * (m : Int) + (t : Int)) (by omega) (by omega), int1, hmd', subD]⟩)
        have hmap : (List.range T).map (fun (t : Nat) => D.int (((md (dv ds (40 + 12 * (s : Int) + 4 * (m : Int) + (t : Int))) 7 : Nat) : Int) - 3)) = ((List.range T).map fun (t : Nat) => ((md (dv ds (40 + 12 * (s : Int) + 4 * (m : Int) + (t : Int))) 7 : Nat) : Int) - 3).map D.int := by
          rw [List.map_map]
          rfl
        rw [hmap] at hc
        refine Ev.seq (Ev.setN (d := eL ((List.range T).map fun (t : Nat) => ((md (dv ds (40 + 12 * (s : Int) + 4 * (m : Int) + (t : Int))) 7 : Nat) : Int) - 3)) (S' := S ++ .lst (sts.map eS) :: (Tj ++ [.lst (ms.map eM)])) (by
          simp only [cApp, cCons, cNil] at hc ⊢
          simp only [gN, List.set_cons_zero, List.set_cons_succ, hc, tupleD, asQ, asL]
          rfl) ?_)
        simp only [gN, List.set_cons_zero, List.set_cons_succ]
        obtain ⟨z, hz⟩ := word_ok (m := m) (by omega) (i := md (dv ds (8 * (s : Int) + 1)) 10) (md_lt (by omega))
        obtain ⟨w, w1, w2, w3⟩ := hz (S ++ .lst (sts.map eS) :: (Tj ++ [.lst (ms.map eM)]))
        have hmd10 := mod_md (a := dv ds (8 * (s : Int) + 1)) (n := 10) (by omega) (S := S ++ .lst (sts.map eS) :: (Tj ++ [.lst (ms.map eM)]))
        have hmd10' : modD (.int (dv ds (8 * (s : Int) + 1))) (.int 10) (S ++ .lst (sts.map eS) :: (Tj ++ [.lst (ms.map eM)])) = _ := hmd10
        refine Ev.seq (Ev.setN (d := .str z) (S' := S ++ .lst (sts.map eS) :: (Tj ++ [.lst (ms.map eM)])) (by
          have e8 : addD (.int (8 * (s : Int))) (.int 1) (S ++ .lst (sts.map eS) :: (Tj ++ [.lst (ms.map eM)])) = some (.int (8 * (s : Int) + 1), S ++ .lst (sts.map eS) :: (Tj ++ [.lst (ms.map eM)])) := rfl
          simp only [cBin, cApp, cCons, cNil, cVar, cC, mkLst, List.length_cons, List.length_nil, Nat.zero_add, Nat.reduceAdd, z3, if_true, List.getElem?_cons_zero, List.getElem?_cons_succ, w1, mul_lit (a := 8) (by simp), e8, ixDs (ds := ds) (i := 8 * (s : Int) + 1) (by omega) (by omega), int1, hmd10', w2, w3]) ?_)
        simp only [List.set_cons_zero, List.set_cons_succ]
        have hmd3 := mod_md (a := dv ds (8 * (s : Int) + 2 + (m : Int))) (n := many) (by omega) (S := S ++ .lst (sts.map eS) :: (Tj ++ [.lst (ms.map eM)]))
        have hge : (S ++ Cell.lst (sts.map eS) :: (Tj ++ [Cell.lst (ms.map eM)]))[S.length + (Tj.length + 1)]? = some (Cell.lst (ms.map eM)) := by
          rw [List.getElem?_append_right (by omega)]
          simp
        have hse : ∀ f : List D, (S ++ Cell.lst (sts.map eS) :: (Tj ++ [Cell.lst (ms.map eM)])).set (S.length + (Tj.length + 1)) (Cell.lst f) = S ++ Cell.lst (sts.map eS) :: (Tj ++ [Cell.lst f]) := fun f => by
          rw [List.set_append_right _ _ (by omega)]
          simp
        refine Ev.expr (d := .non) (S' := S ++ .lst (sts.map eS) :: (Tj ++ [.lst ((ms ++ [Mv.mk z ((List.range T).map fun (t : Nat) => ((md (dv ds (40 + 12 * (s : Int) + 4 * (m : Int) + (t : Int))) 7 : Nat) : Int) - 3) (md (dv ds (8 * (s : Int) + 2 + (m : Int))) many)]).map eM)])) ?_ ?_
        · have hlt3 : (ms.map eM).length < sizeLine := by rw [List.length_map, sizeLine_eq]; omega
          have e8 : ∀ S0 : Store, addD (.int (8 * (s : Int))) (.int 2) S0 = some (.int (8 * (s : Int) + 2), S0) := fun _ => rfl
          have e9 : ∀ S0 : Store, addD (.int (8 * (s : Int) + 2)) (.int m) S0 = some (.int (8 * (s : Int) + 2 + (m : Int)), S0) := fun _ => rfl
          simp only [cM, cBin, cApp, cCons, cNil, cVar, cC, mkTup, List.length_cons, List.length_nil, Nat.zero_add, Nat.reduceAdd, z3, if_true, List.getElem?_cons_zero, List.getElem?_cons_succ, hge, mul_lit (a := 8) (by simp), e8, e9, ixDs (ds := ds) (i := 8 * (s : Int) + 2 + (m : Int)) (by omega) (by omega), int1, hmd3, apnd, hlt3, hse]
          simp [eM]
        · refine ⟨m + 1, _, _, _, _, rfl, hlt2, rfl, rfl, by simp [hml], fun x hx => ?_⟩
          rcases List.mem_append.mp hx with hx | hx
          · exact hgm x hx
          · rw [List.mem_singleton.mp hx]
            refine ⟨by simp, md_lt (by omega), fun y hy => ?_⟩
            obtain ⟨t, _, rfl⟩ := List.mem_map.mp hy
            have := md_lt (a := dv ds (40 + 12 * (s : Int) + 4 * (m : Int) + (t : Int))) (n := 7) (by omega)
            omega
      · rintro ρ S' ⟨i, ms, x6, x7, x8, hr2, hi, rfl, rfl, hml, hgm⟩
        obtain ⟨nm, hnm⟩ := name_ok (i := md (dv ds (8 * (s : Int) + 6)) 2) (md_lt (by omega))
        have hmd2 := fun S0 : Store => mod_md (a := dv ds (8 * (s : Int) + 6)) (n := 2) (by omega) (S := S0)
        have hmd2' : ∀ S0 : Store, modD (.int (dv ds (8 * (s : Int) + 6))) (.int 2) S0 = _ := hmd2
        have hge : (S ++ Cell.lst (sts.map eS) :: (Tj ++ [Cell.lst (ms.map eM)]))[S.length + (Tj.length + 1)]? = some (Cell.lst (ms.map eM)) := by
          rw [List.getElem?_append_right (by omega)]
          simp
        have hg0 : (S ++ Cell.lst (sts.map eS) :: (Tj ++ [Cell.lst (ms.map eM)]))[S.length]? = some (Cell.lst (sts.map eS)) := by simp
        have hs0 : ∀ f : List D, (S ++ Cell.lst (sts.map eS) :: (Tj ++ [Cell.lst (ms.map eM)])).set S.length (Cell.lst f) = S ++ Cell.lst f :: (Tj ++ [Cell.lst (ms.map eM)]) := fun f => by
          rw [List.set_append_right _ _ (by omega)]
          simp
        refine Ev.expr (d := .non) (S' := S ++ .lst ((sts ++ [(nm, ms)]).map eS) :: (Tj ++ [.lst (ms.map eM)])) ?_ ?_
        · have hlt3 : (sts.map eS).length < sizeLine := by rw [List.length_map, sizeLine_eq]; omega
          have e8 : ∀ S0 : Store, addD (.int (8 * (s : Int))) (.int 6) S0 = some (.int (8 * (s : Int) + 6), S0) := fun _ => rfl
          simp only [cM, cBin, cApp, cCons, cNil, cVar, cC, mkTup, mkLst, List.length_cons, List.length_nil, Nat.zero_add, Nat.reduceAdd, z2, if_true, List.getElem?_cons_zero, List.getElem?_cons_succ, hg0, mul_lit (a := 8) (by simp), e8, ixDs (ds := ds) (i := 8 * (s : Int) + 6) (by omega) (by omega), int1, hmd2', hnm, tupleD, asQ, asL, hge, apnd, hlt3, hs0]
          simp [eS]
        · refine ⟨s + 1, _, _, _, _, _, _, _, rfl, hlt, rfl, rfl, by simp [hlen], fun x hx => ?_⟩
          rcases List.mem_append.mp hx with hx | hx
          · exact hgs x hx
          · rw [List.mem_singleton.mp hx]
            exact ⟨by show ms.length ≤ 3; omega, hgm⟩
    · rintro ρ S' ⟨j, sts, Tj, x4, x5, x6, x7, x8, hr, hj, rfl, rfl, hlen, hgs⟩
      have hjm : j = many := by
        have := congrArg List.length hr
        simp at this
        omega
      have hg0 : (S ++ Cell.lst (sts.map eS) :: Tj)[S.length]? = some (Cell.lst (sts.map eS)) := by simp
      refine Ev.ret (d := eB ⟨T, sts⟩) (S' := S ++ .lst (sts.map eS) :: Tj) ?_ ⟨sts, _, rfl, by omega, hgs⟩
      simp only [cApp, cCons, cNil, cVar, mkTup, List.length_cons, List.length_nil, Nat.zero_add, Nat.reduceAdd, z2, if_true, List.getElem?_cons_zero, List.getElem?_cons_succ, tupleD, asQ, asL, hg0]
      rfl
  obtain ⟨f, e, sts, Tj, rfl, hlen, hgs⟩ := key
  have hmem : ∀ s, ∀ m ∈ mvs (⟨T, sts⟩ : Bk) s, GM T many m := fun s m hm => let ⟨x, h1, h2⟩ := mvs_mem hm; (hgs x h1).2 m h2
  refine ⟨⟨T, sts⟩, ⟨hT1, by show T ≤ 100; omega, by show sts.length ≤ 1000; omega, fun x hx => by have := (hgs x hx).1; omega, fun x hx m hm => ((hgs x hx).2 m hm).p, fun x hx m hm => by
    have := ((hgs x hx).2 m hm).to
    show m.to < sts.length
    omega⟩, rfl, hlen, fun s m hm => (hmem s m hm).le, call_rt e ?_⟩
  have hb : belows 0 (sts.map eS) = true := belows_map fun x _ => by
    have : below 0 (.tup (x.2.map eM)) = true := below_mvs _
    simp only [eS, below, belows, Bool.and_true, Bool.true_and] at this ⊢
    exact this
  simp only [eB, below, belows, hb, Bool.and_true]
end K88

namespace K88
open PySem PySem.Spec PyProof.Rows L2 DL

theorem cut_from {ds : List Int} {k : Nat} : DL.cutD (ds.map D.int) (some (k : Int)) none = (ds.drop k).map D.int := by
  unfold DL.cutD HT.sIx
  have h : ¬ ((k : Int) < 0) := by omega
  simp only [h, if_false, List.length_map]
  rw [← List.map_drop, ← List.map_take]
  congr 1
  by_cases hk : k ≤ ds.length
  · have e : min (k : Int).toNat ds.length = k := by omega
    rw [e, List.take_of_length_le]
    rw [List.length_drop]
    omega
  · rw [List.drop_eq_nil_of_le (by omega : ds.length ≤ k)]
    rw [List.take_eq_nil_iff]
    right
    rw [List.drop_eq_nil_iff]
    omega
theorem sl_from {ds : List Int} {k : Nat} {c : DE} {ρ : Env'} {S : Store} (h : c ρ S = some (eDs ds, S)) : cSl false c (oSome (cC (.int k))) oNo ρ S = some (eDs (ds.drop k), S) := by
  simp only [cSl, h, oSome, cC, oNo, slD, asQ, asL, cut_from, Bool.false_eq_true, if_false]
/-- the levels that are drawn -/
def lvD (ds : List Int) (a n T : Nat) : Lv := (List.range T).map fun (t : Nat) => ((md (dv ds ((a : Int) + (t : Int))) n : Nat) : Int)
theorem lvD_len {ds : List Int} {a n T : Nat} : (lvD ds a n T).length = T := by simp [lvD]
theorem lvD_nn {ds : List Int} {a n T : Nat} : dry (lvD ds a n T) = false := by
  unfold dry
  rw [List.any_eq_false]
  intro x hx
  obtain ⟨t, _, rfl⟩ := List.mem_map.mp hx
  simp
theorem lvD_lt {ds : List Int} {a n T : Nat} (hn : 0 < n) : ∀ y ∈ lvD ds a n T, y ≤ ((n - 1 : Nat) : Int) := by
  intro y hy
  obtain ⟨t, _, rfl⟩ := List.mem_map.mp hy
  have := md_lt (a := dv ds ((a : Int) + (t : Int))) hn
  omega
theorem drawn_ok {ds : List Int} (hd : 130 ≤ ds.length) {S : Store} : f__law_drawn [eDs ds] S = some (.bl true, S) := by
  have z1 : (1 : Nat) ≤ sizeLine := by rw [sizeLine_eq]; omega
  have h2 := md_lt (a := dv ds 0) (n := 2) (by omega)
  have h4 := md_lt (a := dv ds 1) (n := 4) (by omega)
  obtain ⟨T, hT⟩ : ∃ T, T = 1 + md (dv ds 0) 2 := ⟨_, rfl⟩
  obtain ⟨many, hm⟩ : ∃ many, many = 1 + md (dv ds 1) 4 := ⟨_, rfl⟩
  obtain ⟨b, W, hbT, hbn, hbg, hb⟩ := book_ok (S := S) (ds := ds.drop 20) (by simp; omega) (T := T) (many := many) (by omega) (by omega) (by omega) (by omega)
  have hms := md_lt (a := dv ds 2) (n := many) (by omega)
  have hmg := md_lt (a := dv ds 9) (n := many) (by omega)
  have hmo := md_lt (a := dv ds 10) (n := 8) (by omega)
  have md2 : modD (.int (dv ds 0)) (.int 2) S = _ := mod_md (n := 2) (by omega)
  have md4 : modD (.int (dv ds 1)) (.int 4) S = _ := mod_md (n := 4) (by omega)
  have mds : modD (.int (dv ds 2)) (.int many) S = _ := mod_md (n := many) (by omega)
  have mdg : modD (.int (dv ds 9)) (.int many) S = _ := mod_md (n := many) (by omega)
  have md8 : modD (.int (dv ds 10)) (.int 8) S = _ := mod_md (n := 8) (by omega)
  have i0 := ixDs (ds := ds) (i := 0) (by omega) (by omega) (S := S)
  have i1 := ixDs (ds := ds) (i := 1) (by omega) (by omega) (S := S)
  have i2 := ixDs (ds := ds) (i := 2) (by omega) (by omega) (S := S)
  have i9 := ixDs (ds := ds) (i := 9) (by omega) (by omega) (S := S)
  have i10 := ixDs (ds := ds) (i := 10) (by omega) (by omega) (S := S)
  refine call_ev ?_ rfl
  unfold c__law_drawn
  refine Ev.seq (Ev.par (x := .int T) (y := .int many) (S' := S) (by
    have e1 : addD (.int 1) (.int (md (dv ds 0) 2 : Nat)) S = some (.int T, S) := by rw [hT]; simp [addD]
    have e2 : addD (.int 1) (.int (md (dv ds 1) 4 : Nat)) S = some (.int many, S) := by rw [hm]; simp [addD]
    simp only [cCons, cNil, cBin, cApp, cC, cVar, List.map_cons, List.map_nil, List.cons_append, List.nil_append, List.getElem?_cons_zero, List.getElem?_cons_succ, i0, i1, int1, md2, md4, e1, e2]) ?_)
  simp only [List.map_cons, List.map_nil, List.length_cons, List.length_nil, Nat.zero_add, Nat.reduceAdd, Nat.reduceSub, List.replicate, List.cons_append, List.nil_append, List.set_cons_zero, List.set_cons_succ]
  refine Ev.seq (Ev.par (x := eB b) (y := .int (md (dv ds 2) many : Nat)) (S' := S) (by
    have es : cSl false (cVar 0) (oSome (cC (.int 20))) oNo [some (eDs ds), some (.int T), some (.int many), none, none, none, none, none, none, none, none] S = some (eDs (ds.drop 20), S) := sl_from (k := 20) rfl
    simp only [cCons, cNil, cBin, cApp, cC, es] at hb ⊢
    simp only [cCons, cVar, nD, List.length_cons, List.length_nil, Nat.zero_add, Nat.reduceAdd, if_true, List.getElem?_cons_zero, List.getElem?_cons_succ, es, hb, i2, int1, mds]) ?_)
  simp only [List.set_cons_zero, List.set_cons_succ]
  have hlc : ∀ (a n : Nat) (x5 x6 : Option D), 0 < n → a + 2 ≤ 100 → cLC [10] false (cRng1 (cVar 1)) (lt1 (gN 10) tYesD (cBin modD (cApp DL.intD (cCons (cBin ixD (cVar 0) (cBin addD (cC (.int a)) (cVar 10))) cNil)) (cC (.int n)))) [some (eDs ds), some (.int T), some (.int many), some (eB b), some (.int (md (dv ds 2) many : Nat)), x5, x6, none, none, none, none] S = some (.lst ((lvD ds a n T).map D.int), S) := by
    intro a n x5 x6 hn ha
    have hc := cLC_map (S := S) (ρ := [some (eDs ds), some (.int T), some (.int many), some (eB b), some (.int (md (dv ds 2) many : Nat)), x5, x6, none, none, none, none]) (vs := [10]) (ci := cRng1 (cVar 1)) (g := gN 10) (e := cBin modD (cApp DL.intD (cCons (cBin ixD (cVar 0) (cBin addD (cC (.int a)) (cVar 10))) cNil)) (cC (.int n)))
      (l := List.range T) (fun i => D.int (i : Nat)) (fun t => .int ((md (dv ds ((a : Int) + (t : Int))) n : Nat) : Int)) (rng1 (n := T) (by simp [sSeq, sSet, sRet, sExpr, sIf, gN, gT, gsCons, gsNil, cVar, cC, cBin, cUn, cNil, cCons, cApp, cB, cTr, cAnd, cOr, cNot, cV, cAndV, cOrV, cNotV, cIf, nD, mkTup, mkLst, mkBox, asQ, asL, negD, addD, subD, cmpD, isND, notND, eqD, neD, eqS, lenD, tupleD, DL.intD, cM, apnd, popM, sPar, sPar3, sNext, sAug, ipD]) (by omega)) rfl (small (by simp; omega))
      (fun t ht => ⟨_, rfl, by
        have h1 := List.mem_range.mp ht
        simp only [wipeD, cBin, cApp, cCons, cNil, cVar, cC, List.set_cons_zero, List.set_cons_succ, List.getElem?_cons_zero, List.getElem?_cons_succ, addD, ixDs (ds := ds) (i := (a : Int) + (t : Int)) (by omega) (by omega), int1, mod_md hn]⟩)
    rw [hc, lvD, List.map_map]
    rfl
  refine Ev.seq (Ev.setN (d := eL (lvD ds 3 4 T)) (S' := S) (by
    have := hlc 3 4 none none (by omega) (by omega)
    have this' : cLC [10] false (cRng1 (cVar 1)) (lt1 (gN 10) tYesD (cBin modD (cApp DL.intD (cCons (cBin ixD (cVar 0) (cBin addD (cC (.int 3)) (cVar 10))) cNil)) (cC (.int 4)))) [some (eDs ds), some (.int T), some (.int many), some (eB b), some (.int (md (dv ds 2) many : Nat)), none, none, none, none, none, none] S = _ := this
    rw [cApp, cCons1 this']
    rfl) ?_)
  simp only [List.set_cons_zero, List.set_cons_succ]
  refine Ev.seq (Ev.setN (d := eL (lvD ds 6 7 T)) (S' := S) (by
    have := hlc 6 7 (some (eL (lvD ds 3 4 T))) none (by omega) (by omega)
    have this' : cLC [10] false (cRng1 (cVar 1)) (lt1 (gN 10) tYesD (cBin modD (cApp DL.intD (cCons (cBin ixD (cVar 0) (cBin addD (cC (.int 6)) (cVar 10))) cNil)) (cC (.int 7)))) [some (eDs ds), some (.int T), some (.int many), some (eB b), some (.int (md (dv ds 2) many : Nat)), some (eL (lvD ds 3 4 T)), none, none, none, none, none] S = _ := this
    rw [cApp, cCons1 this']
    rfl) ?_)
  simp only [List.set_cons_zero, List.set_cons_succ]
  refine Ev.seq (Ev.par (x := .int (md (dv ds 9) many : Nat)) (y := .int (md (dv ds 10) 8 : Nat)) (S' := S) (by
    simp only [cCons, cNil, cBin, cApp, cC, cVar, List.getElem?_cons_zero, List.getElem?_cons_succ, i9, i10, int1, mdg, md8]) ?_)
  simp only [List.set_cons_zero, List.set_cons_succ]
  refine Ev.seq (Ev.setN (d := eL (zs b)) (S' := S) (by
    have := rep_zs W (S := S)
    rw [hbT] at this
    simp only [cBin, cApp, cCons, cNil, cC, cVar, mkTup, List.length_cons, List.length_nil, Nat.zero_add, z1, if_true, List.getElem?_cons_zero, List.getElem?_cons_succ, this]) ?_)
  simp only [List.set_cons_zero, List.set_cons_succ]
  have hl : (lvD ds 3 4 T).length = b.T := by rw [lvD_len, hbT]
  have hw : (lvD ds 6 7 T).length = b.T := by rw [lvD_len, hbT]
  have hs : md (dv ds 2) many < b.sts.length := by omega
  obtain ⟨U, hU1, hU2⟩ := univ W hs hl lvD_nn (base := 3) (g := 3) (lvD_lt (n := 4) (by omega)) hbg (md (dv ds 10) 8 + 1)
  have hUz : U.length ≤ 2000000 := by
    rw [hU1]
    have a1 : (3 + (md (dv ds 10) 8 + 1) * 3 + 1) ≤ 28 := by omega
    have a2 : (3 + (md (dv ds 10) 8 + 1) * 3 + 1) ^ b.T ≤ 28 ^ 2 := Nat.le_trans (Nat.pow_le_pow_left a1 _) (Nat.pow_le_pow_right (by omega) (by omega))
    have a3 := Nat.mul_le_mul (show b.sts.length ≤ 4 by omega) a2
    omega
  have hUz' : U.length < sizeLine := by rw [sizeLine_eq]; omega
  obtain ⟨d1, D1, F1⟩ := fewestL_ok (S := S) W (g := some (md (dv ds 9) many)) (wt := zs b) hs hl (by simp) (most := md (dv ds 10) 8) (by omega) hU2 hUz
  obtain ⟨d2, D2, F2⟩ := fewestL_ok (S := S) W (g := none) (wt := lvD ds 6 7 T) hs hl hw (most := md (dv ds 10) 8) (by omega) hU2 hUz
  have C1 := comes_ok (S := S) W (by omega) hs hl lvD_nn (by omega) hU2 hUz' D1
  have C2 := wants_ok (S := S) W (by omega) hs hl hw lvD_nn (by omega) hU2 hUz' D2
  have F1' : f__law_fewest [eB b, .int (md (dv ds 2) many : Nat), eL (lvD ds 3 4 T), .int (md (dv ds 9) many : Nat), eL (zs b), .int (md (dv ds 10) 8 : Nat)] S = _ := F1
  have F2' : f__law_fewest [eB b, .int (md (dv ds 2) many : Nat), eL (lvD ds 3 4 T), .non, eL (lvD ds 6 7 T), .int (md (dv ds 10) 8 : Nat)] S = _ := F2
  refine Ev.seq (Ev.ifF (S' := S) (by
    simp only [cNot, cB, cApp, cCons, cNil, cVar, nD, List.length_cons, List.length_nil, Nat.zero_add, Nat.reduceAdd, if_true, List.getElem?_cons_zero, List.getElem?_cons_succ, F1', C1, Bool.not_true]) (Ev.next ?_))
  refine Ev.ret (d := .bl true) (S' := S) ?_ ⟨[], by simp⟩
  simp only [cC, cApp, cCons, cNil, cVar, nD, List.length_cons, List.length_nil, Nat.zero_add, Nat.reduceAdd, if_true, List.getElem?_cons_zero, List.getElem?_cons_succ, F2', C2]
end K88

namespace K88
open PySem PySem.Spec PyProof.Rows L2 DL

theorem cut_ints (ns : List Int) (lo hi : Option Int) : ∃ cs : List Int, DL.cutD (ns.map D.int) lo hi = cs.map D.int ∧ cs.length ≤ ns.length := by
  refine ⟨(ns.drop (HT.sIx (ns.map D.int).length 0 lo)).take (HT.sIx (ns.map D.int).length (ns.map D.int).length hi - HT.sIx (ns.map D.int).length 0 lo), ?_, ?_⟩
  · unfold DL.cutD
    rw [← List.map_drop, ← List.map_take]
  · rw [List.length_take, List.length_drop]
    omega
theorem lits64 : ∀ a : Int, a = 71089 ∨ a = 39373 ∨ a = 17 → -(2 ^ 64) < a ∧ a < 2 ^ 64 := by
  rintro a (rfl | rfl | rfl) <;> decide +kernel
theorem mul_litR {a b : Int} (h : b = 71089 ∨ b = 39373 ∨ b = 17) {S : Store} : mulD (.int a) (.int b) S = some (.int (a * b), S) := by
  simp only [mulD]
  rw [if_pos (show inM a b from .inr (lits64 b h))]
theorem pow15 {S : Store} : powD (.int 10) (.int 15) S = some (.int (10 ^ 15), S) := by
  simp only [powD]
  rw [if_pos (show inP 10 15 from ⟨by omega, by omega, by decide +kernel⟩)]
  rfl
theorem getS {S C : Store} {j : Nat} : (S ++ C)[S.length + j]? = C[j]? := by
  rw [List.getElem?_append_right (by omega)]
  congr 1
  omega
theorem setS {S C : Store} {j : Nat} {c : Cell} : (S ++ C).set (S.length + j) c = S ++ C.set j c := by
  rw [List.set_append_right _ _ (by omega)]
  congr 2
  omega
theorem at0 {α : Type} {x : α} {l : List α} : L2.atI (x :: l) 0 = some x := atI_nat (j := 0) rfl
theorem draws_ok {ns : List Int} (hn : ns.length ≤ 63) {many : Nat} (hm : many ≤ 1000) {S : Store} : ∃ ds : List Int, ds.length = many ∧ f__law_draws [.scr (ns.map D.int), .int many] S = some (eDs ds, S) := by
  have key : Ev c__law_draws ([.scr (ns.map D.int), .int many].map some ++ List.replicate (8 - 2) none) S (fun f => ∃ ds T, f = .rt (eDs ds) (S ++ T) ∧ ds.length = many) := by
    unfold c__law_draws
    obtain ⟨cs, c1, c2⟩ := cut_ints ns none (some 60)
    have hc1 := cLC_map (S := S) (ρ := [some (.scr (ns.map D.int)), some (.int many), none, none, none, none, none, none]) (vs := [7]) (ci := cItS (cSl false (cVar 0) oNo (oSome (cC (.int 60))))) (g := gN 7) (e := cApp DL.intD (cCons (cVar 7) cNil))
      (l := cs) D.int (fun x => .int x) (xs := cs.map D.int) (by simp only [cItS, cSl, cVar, oNo, oSome, cC, slD, asQ, List.getElem?_cons_zero, c1, Bool.false_eq_true, if_false, itSeq, Option.map_some]) rfl (small (by omega)) (fun q hq => ⟨_, rfl, rfl⟩)
    refine Ev.seq (Ev.setN (d := eDs cs) (S' := S) hc1 ?_)
    simp only [List.map_cons, List.map_nil, List.length_cons, List.length_nil, Nat.zero_add, Nat.reduceAdd, Nat.reduceSub, List.replicate, List.cons_append, List.nil_append, List.set_cons_zero, List.set_cons_succ]
    refine Ev.seq (Ev.setN (d := .int 4007) (S' := S) rfl ?_)
    simp only [List.set_cons_zero, List.set_cons_succ]
    refine Ev.seq (Ev.for_ (S' := S) (fun n : Nat => .int (n : Nat)) (fun rem ρ S' => ∃ sd x4, ρ = [some (.scr (ns.map D.int)), some (.int many), some (eDs cs), some (.int sd), x4, none, none, none] ∧ S' = S ∧ ∀ k ∈ rem, k < cs.length)
      (rng1 (n := cs.length) (by simp [sSeq, sSet, sRet, sExpr, sIf, gN, gT, gsCons, gsNil, cVar, cC, cBin, cUn, cNil, cCons, cApp, cB, cTr, cAnd, cOr, cNot, cV, cAndV, cOrV, cNotV, cIf, nD, mkTup, mkLst, mkBox, asQ, asL, negD, addD, subD, cmpD, isND, notND, eqD, neD, eqS, lenD, tupleD, DL.intD, cM, apnd, popM, sPar, sPar3, sNext, sAug, ipD]) (by omega)) rfl ⟨4007, none, rfl, rfl, fun k hk => List.mem_range.mp hk⟩ ?_ ?_)
    · rintro k rem ρ S' ⟨sd, x4, rfl, rfl, hr⟩
      have hk := hr k (by simp)
      refine ⟨_, rfl, Ev.setN (d := .int ((md (sd * 71089 + ((md (if dv cs k < 0 then -(dv cs k) else dv cs k) 13997 : Nat) : Int) + 17 * (k : Int) + 79) 2147483543 : Nat) : Int)) (S' := S') ?_ ⟨_, _, rfl, rfl, fun k hk => hr k (by simp [hk])⟩⟩
      have m1 : modD (.int (if dv cs k < 0 then -(dv cs k) else dv cs k)) (.int 13997) S' = _ := mod_md (n := 13997) (by omega)
      have m2 : modD (.int (sd * 71089 + ((md (if dv cs k < 0 then -(dv cs k) else dv cs k) 13997 : Nat) : Int) + 17 * (k : Int) + 79)) (.int 2147483543) S' = _ := mod_md (n := 2147483543) (by omega)
      simp only [gN, List.set_cons_zero, List.set_cons_succ, cBin, cApp, cCons, cNil, cVar, cC, List.getElem?_cons_zero, List.getElem?_cons_succ, mul_litR (b := 71089) (by simp), mul_lit (a := 17) (by simp), ixDs (ds := cs) (i := (k : Int)) (by omega) (by omega), absD, m1, addD, int1, m2]
    rintro ρ S' ⟨sd, x4, rfl, rfl, _⟩
    have hc2 := cLC_fmB (S := S') (ρ := [some (.scr (ns.map D.int)), some (.int many), some (eDs cs), some (.int sd), x4, none, none, none]) (vs := [7]) (ci := cItS (cVar 2)) (g := gN 7) (t := cB (cBin geD (cApp absD (cCons (cVar 7) cNil)) (cBin powD (cC (.int 10)) (cC (.int 15))))) (e := cApp absD (cCons (cVar 7) cNil))
      (l := cs) D.int (fun x => decide ((10 : Int) ^ 15 ≤ (if x < 0 then -x else x))) (fun x => .int (if x < 0 then -x else x)) (xs := cs.map D.int) (by simp only [cItS, cVar, List.getElem?_cons_zero, List.getElem?_cons_succ, itSeq, Option.map_some]) rfl (small (by omega))
      (fun q hq => ⟨_, rfl, by simp only [wipeD, cB, cBin, cApp, cCons, cNil, cVar, cC, List.set_cons_zero, List.set_cons_succ, List.getElem?_cons_zero, List.getElem?_cons_succ, absD, pow15, cmpD], fun _ => by simp only [wipeD, cApp, cCons, cNil, cVar, List.set_cons_zero, List.set_cons_succ, List.getElem?_cons_zero, List.getElem?_cons_succ, absD]⟩)
    obtain ⟨gs, hgs⟩ : ∃ gs : List Int, (cs.filter fun x => decide ((10 : Int) ^ 15 ≤ (if x < 0 then -x else x))).map (fun x => D.int (if x < 0 then -x else x)) = gs.map D.int := ⟨(cs.filter fun x => decide ((10 : Int) ^ 15 ≤ (if x < 0 then -x else x))).map (fun x => if x < 0 then -x else x), by rw [List.map_map]; rfl⟩
    rw [hgs] at hc2
    refine Ev.seq (Ev.setN (d := .ref S'.length) (S' := S' ++ [.lst (gs.map D.int)]) hc2 ?_)
    simp only [List.set_cons_zero, List.set_cons_succ]
    refine Ev.seq (Ev.setN (d := .ref (S'.length + 1)) (S' := S' ++ [.lst (gs.map D.int), .lst (([] : List Int).map D.int)]) (by simp [sSeq, sSet, sRet, sExpr, sIf, gN, gT, gsCons, gsNil, cVar, cC, cBin, cUn, cNil, cCons, cApp, cB, cTr, cAnd, cOr, cNot, cV, cAndV, cOrV, cNotV, cIf, nD, mkTup, mkLst, mkBox, asQ, asL, negD, addD, subD, cmpD, isND, notND, eqD, neD, eqS, lenD, tupleD, DL.intD, cM, apnd, popM, sPar, sPar3, sNext, sAug, ipD]) ?_)
    simp only [List.set_cons_zero, List.set_cons_succ]
    refine Ev.seq (Ev.for_ (S' := S' ++ [.lst (gs.map D.int), .lst (([] : List Int).map D.int)]) (fun n : Nat => .int (n : Nat)) (fun rem ρ S2 => ∃ i sd x4 jg gs out C, rem = List.range' i (many - i) ∧ i ≤ many ∧ ρ = [some (.scr (ns.map D.int)), some (.int many), some (eDs cs), some (.int sd), x4, some (.ref (S'.length + jg)), some (.ref (S'.length + 1)), none] ∧ S2 = S' ++ C ∧ C[jg]? = some (.lst (gs.map D.int)) ∧ jg ≠ 1 ∧ C[1]? = some (.lst (out.map D.int)) ∧ out.length = i)
      (rng1 (n := many) (by simp [sSeq, sSet, sRet, sExpr, sIf, gN, gT, gsCons, gsNil, cVar, cC, cBin, cUn, cNil, cCons, cApp, cB, cTr, cAnd, cOr, cNot, cV, cAndV, cOrV, cNotV, cIf, nD, mkTup, mkLst, mkBox, asQ, asL, negD, addD, subD, cmpD, isND, notND, eqD, neD, eqS, lenD, tupleD, DL.intD, cM, apnd, popM, sPar, sPar3, sNext, sAug, ipD]) (by omega)) rfl ⟨0, sd, x4, 0, gs, [], _, by rw [List.range_eq_range']; simp, Nat.zero_le _, rfl, rfl, rfl, by omega, rfl, rfl⟩ ?_ ?_)
    · rintro k rem ρ S2 ⟨i, sd, x4, jg, gs, out, C, hr, hi, rfl, rfl, hg, hj1, ho, hol⟩
      obtain ⟨rfl, hlt, rfl⟩ := rng_at hr hi
      have hosz : (out.map D.int).length < sizeLine := by rw [List.length_map, sizeLine_eq]; omega
      have h1l : 1 < C.length := (List.getElem?_eq_some_iff.mp ho).1
      have hjl : jg < C.length := (List.getElem?_eq_some_iff.mp hg).1
      refine ⟨_, rfl, ?_⟩
      simp only [gN, List.set_cons_zero, List.set_cons_succ]
      cases gs with
      | nil =>
        refine Ev.ifF (S' := S' ++ C) (by simp only [cB, cBin, cApp, cCons, cNil, cVar, cC, List.getElem?_cons_zero, List.getElem?_cons_succ, lenD, asQ, asL, getS, hg, List.map_nil, List.length_nil, cmpD]; rfl) ?_
        have m3 : modD (.int (sd * 39373 + 797)) (.int 2147483543) (S' ++ C) = _ := mod_md (n := 2147483543) (by omega)
        refine Ev.seq (Ev.setN (d := .int ((md (sd * 39373 + 797) 2147483543 : Nat) : Int)) (S' := S' ++ C) (by simp only [cBin, cApp, cCons, cNil, cVar, cC, List.getElem?_cons_zero, List.getElem?_cons_succ, mul_litR (b := 39373) (by simp), addD, int1, m3]) ?_)
        simp only [List.set_cons_zero, List.set_cons_succ]
        refine Ev.expr (d := .non) (S' := S' ++ C.set 1 (.lst ((out ++ [((md (sd * 39373 + 797) 2147483543 : Nat) : Int).fdiv 179]).map D.int))) ?_ ⟨k + 1, _, _, jg, [], out ++ [((md (sd * 39373 + 797) 2147483543 : Nat) : Int).fdiv 179], _, rfl, hlt, rfl, rfl, ?_, hj1, ?_, by simp [hol]⟩
        · have e3 : out.map D.int ++ [D.int (((md (sd * 39373 + 797) 2147483543 : Nat) : Int).fdiv 179)] = (out ++ [((md (sd * 39373 + 797) 2147483543 : Nat) : Int).fdiv 179]).map D.int := by simp
          have f1 : fdivD (.int ((md (sd * 39373 + 797) 2147483543 : Nat) : Int)) (.int 179) (S' ++ C) = some (.int (((md (sd * 39373 + 797) 2147483543 : Nat) : Int).fdiv 179), S' ++ C) := by
            simp only [fdivD]
            rw [if_pos (by decide)]
          simp only [cM, cBin, cApp, cCons, cNil, cVar, cC, List.getElem?_cons_zero, List.getElem?_cons_succ, getS, ho, f1, apnd, hosz, if_true, e3, setS]
        · rw [List.getElem?_set_ne (Ne.symm hj1)]; exact hg
        · rw [List.getElem?_set_self h1l]
      | cons g0 gs =>
        have hix : ∀ C0 : Store, C0[jg]? = some (.lst ((g0 :: gs).map D.int)) → ixD (.ref (S'.length + jg)) (.int 0) (S' ++ C0) = some (.int g0, S' ++ C0) := fun C0 h0 => by
          show (match asQ (S' ++ C0) (.ref (S'.length + jg)) with
            | some xs => (L2.atI xs 0).map fun d => (d, S' ++ C0)
            | none => none) = _
          simp only [asQ, asL, getS, h0, List.map_cons, at0, Option.map_some]
        refine Ev.ifT (S' := S' ++ C) (by
          simp only [cB, cBin, cApp, cCons, cNil, cVar, cC, List.getElem?_cons_zero, List.getElem?_cons_succ, lenD, asQ, asL, getS, hg, List.length_map, List.length_cons, cmpD]
          have : decide ((0 : Int) < ((gs.length + 1 : Nat) : Int)) = true := by simp
          rw [this]) ?_
        have m4 : modD (.int g0) (.int 1013) (S' ++ C) = _ := mod_md (n := 1013) (by omega)
        have hC1 : (C.set 1 (.lst ((out ++ [((md g0 1013 : Nat) : Int)]).map D.int)))[jg]? = some (.lst ((g0 :: gs).map D.int)) := by
          rw [List.getElem?_set_ne (Ne.symm hj1)]; exact hg
        refine Ev.seq (Ev.expr (d := .non) (S' := S' ++ C.set 1 (.lst ((out ++ [((md g0 1013 : Nat) : Int)]).map D.int))) ?_ ?_)
        · have e3 : out.map D.int ++ [D.int ((md g0 1013 : Nat) : Int)] = (out ++ [((md g0 1013 : Nat) : Int)]).map D.int := by simp
          simp only [cM, cBin, cApp, cCons, cNil, cVar, cC, List.getElem?_cons_zero, List.getElem?_cons_succ, getS, ho, hix C hg, int1, m4, apnd, hosz, if_true, e3, setS]
        have f2 : ∀ S0 : Store, fdivD (.int g0) (.int 1013) S0 = some (.int (g0.fdiv 1013), S0) := fun S0 => by
          simp only [fdivD]
          rw [if_pos (by decide)]
        have hC2 : ((C.set 1 (.lst ((out ++ [((md g0 1013 : Nat) : Int)]).map D.int))).set jg (.lst ((g0.fdiv 1013 :: gs).map D.int)))[jg]? = some (.lst ((g0.fdiv 1013 :: gs).map D.int)) := List.getElem?_set_self (by simpa using hjl)
        have hO2 : ((C.set 1 (.lst ((out ++ [((md g0 1013 : Nat) : Int)]).map D.int))).set jg (.lst ((g0.fdiv 1013 :: gs).map D.int)))[1]? = some (.lst ((out ++ [((md g0 1013 : Nat) : Int)]).map D.int)) := by
          rw [List.getElem?_set_ne hj1, List.getElem?_set_self h1l]
        refine Ev.seq ⟨.nx _ (S' ++ (C.set 1 (.lst ((out ++ [((md g0 1013 : Nat) : Int)]).map D.int))).set jg (.lst ((g0.fdiv 1013 :: gs).map D.int))), by
          have hsa : setAt (S'.length + jg) 0 (.int (g0.fdiv 1013)) (S' ++ C.set 1 (.lst ((out ++ [((md g0 1013 : Nat) : Int)]).map D.int))) = some (S' ++ (C.set 1 (.lst ((out ++ [((md g0 1013 : Nat) : Int)]).map D.int))).set jg (.lst ((g0.fdiv 1013 :: gs).map D.int))) := by
            simp only [setAt, getS, hC1]
            have : ixN ((g0 :: gs).map D.int).length 0 = some 0 := by
              unfold ixN
              rw [if_pos (by omega), if_pos (by simp)]
              rfl
            rw [this]
            simp only [setS]
            rfl
          simp only [sSetIx, cBin, cVar, cC, List.getElem?_cons_zero, List.getElem?_cons_succ, hix _ hC1, f2, hsa]
          rfl, ?_⟩
        have hix2 : ixD (.ref (S'.length + jg)) (.int 0) (S' ++ (C.set 1 (.lst ((out ++ [((md g0 1013 : Nat) : Int)]).map D.int))).set jg (.lst ((g0.fdiv 1013 :: gs).map D.int))) = some (.int (g0.fdiv 1013), S' ++ (C.set 1 (.lst ((out ++ [((md g0 1013 : Nat) : Int)]).map D.int))).set jg (.lst ((g0.fdiv 1013 :: gs).map D.int))) := by
          show (match asQ _ (.ref (S'.length + jg)) with
            | some xs => (L2.atI xs 0).map fun d => (d, _)
            | none => none) = _
          simp only [asQ, asL, getS, hC2]
          simp only [List.map_cons, at0, Option.map_some]
        refine Ev.ite (c := decide (g0.fdiv 1013 = 0)) (S' := S' ++ (C.set 1 (.lst ((out ++ [((md g0 1013 : Nat) : Int)]).map D.int))).set jg (.lst ((g0.fdiv 1013 :: gs).map D.int))) (by simp only [cB, cBin, cVar, cC, List.getElem?_cons_zero, List.getElem?_cons_succ, hix2, eqD, eqS, Option.map_some]) (fun _ => ?_) fun _ => Ev.next ⟨k + 1, _, _, jg, _, _, _, rfl, hlt, rfl, rfl, hC2, hj1, hO2, by simp [hol]⟩
        obtain ⟨gs2, g1, g2⟩ := cut_ints (g0.fdiv 1013 :: gs) (some 1) none
        refine Ev.setN (d := .ref (S'.length + ((C.set 1 (.lst ((out ++ [((md g0 1013 : Nat) : Int)]).map D.int))).set jg (.lst ((g0.fdiv 1013 :: gs).map D.int))).length)) (S' := S' ++ ((C.set 1 (.lst ((out ++ [((md g0 1013 : Nat) : Int)]).map D.int))).set jg (.lst ((g0.fdiv 1013 :: gs).map D.int)) ++ [.lst (gs2.map D.int)])) (by
          simp only [cSl, cVar, cC, oSome, oNo, slD, asQ, asL, List.getElem?_cons_zero, List.getElem?_cons_succ, getS, hC2, g1, if_true, List.length_append, List.append_assoc]) ⟨k + 1, _, _, _, gs2, out ++ [((md g0 1013 : Nat) : Int)], _, rfl, hlt, rfl, rfl, by rw [List.getElem?_append_right (Nat.le_refl _), Nat.sub_self]; rfl, by rw [List.length_set, List.length_set]; omega, ?_, by simp [hol]⟩
        rw [List.getElem?_append_left (by simpa using h1l)]
        exact hO2
    · rintro ρ S2 ⟨i, sd, x4, jg, gs, out, C, hr, hi, rfl, rfl, hg, hj1, ho, hol⟩
      have him : i = many := by
        have := congrArg List.length hr
        simp at this
        omega
      refine Ev.ret (d := eDs out) (S' := S' ++ C.set 1 .dead) (by simp only [cFrz, cVar, List.getElem?_cons_zero, List.getElem?_cons_succ, getS, ho, setS]) ⟨out, _, rfl, by omega⟩
  obtain ⟨f, e, ds, T, rfl, hl⟩ := key
  exact ⟨ds, hl, call_rt e (belows_map fun _ _ => rfl)⟩
end K88

namespace K88
open PySem PySem.Spec PyProof.Rows L2 DL

/-! pumps: what is reached -/
structure Pu (b : Bk) (g0 g1 l0 l1 n0 n1 : Nat) (q : Bool) : Prop where
  T : b.T = 2
  n : b.sts.length = 2
  end_ : mvs b 1 = []
  only : ∀ m ∈ mvs b 0, (m.p = [(g0 : Int), 0] ∧ m.to = 0) ∨ (m.p = [-(n0 : Int), -(n1 : Int)] ∧ m.to = 1) ∨ (q = true ∧ m.p = [0, (g1 : Int)] ∧ m.to = 0)
  p : ∃ m ∈ mvs b 0, m.p = [(g0 : Int), 0] ∧ m.to = 0
  go : ∃ m ∈ mvs b 0, m.p = [-(n0 : Int), -(n1 : Int)] ∧ m.to = 1
  q : q = true → ∃ m ∈ mvs b 0, m.p = [0, (g1 : Int)] ∧ m.to = 0
section
variable {b : Bk} {g0 g1 l0 l1 n0 n1 : Nat} {q : Bool}
abbrev lv (l0 l1 g0 g1 i j : Nat) : Lv := [(l0 : Int) + i * g0, (l1 : Int) + j * g1]
theorem dry2 {x y : Int} : dry [x, y] = false ↔ 0 ≤ x ∧ 0 ≤ y := by
  simp [dry]
theorem ge2 {x y u v : Int} : geB [x, y] [u, v] = true ↔ u ≤ x ∧ v ≤ y := by
  simp [geB]
theorem lv_nn {i j : Nat} : 0 ≤ (l0 : Int) + i * g0 ∧ 0 ≤ (l1 : Int) + j * g1 := by
  have a : (0 : Int) ≤ ((l0 + i * g0 : Nat) : Int) := Int.natCast_nonneg _
  have c : (0 : Int) ≤ ((l1 + j * g1 : Nat) : Int) := Int.natCast_nonneg _
  constructor
  · simpa using a
  · simpa using c
theorem list2 {a c u v : Int} (h1 : a = u) (h2 : c = v) : [a, c] = [u, v] := by rw [h1, h2]
theorem stp1 (i g : Nat) : (((i + 1 : Nat) : Int)) * g = i * g + g := by
  have : ((i + 1) * g : Nat) = i * g + g := by rw [Nat.add_mul]; omega
  exact_mod_cast this
theorem pu_inv (h : Pu b g0 g1 l0 l1 n0 n1 q) {n : Nat} {x : Place} (hr : R b (0, [(l0 : Int), (l1 : Int)]) n x) :
    (x.1 = 0 ∧ ∃ i j, i + j = n ∧ x.2 = lv l0 l1 g0 g1 i j ∧ (q = false → j = 0)) ∨ (x.1 = 1 ∧ ∃ i j, i + j + 1 = n ∧ (n0 : Int) ≤ (l0 : Int) + i * g0 ∧ (n1 : Int) ≤ (l1 : Int) + j * g1 ∧ (q = false → j = 0) ∧ x.2 = [(l0 : Int) + i * g0 - n0, (l1 : Int) + j * g1 - n1]) := by
  induction hr with
  | zero => exact .inl ⟨rfl, 0, 0, rfl, by simp [lv], fun _ => rfl⟩
  | @succ k y c m hr hm hd ih =>
    rcases ih with ⟨y1, i, j, h1, h2, h3⟩ | ⟨y1, _⟩
    · rw [y1] at hm
      rcases h.only m (List.mem_of_getElem? hm) with ⟨p1, p2⟩ | ⟨p1, p2⟩ | ⟨hq, p1, p2⟩
      · refine .inl ⟨p2, i + 1, j, by omega, ?_, h3⟩
        show add y.2 m.p = _
        rw [h2, p1]
        simp only [add, lv, List.zipWith_cons_cons, List.zipWith_nil_left]
        have := stp1 i g0
        exact list2 (by omega) (by omega)
      · refine .inr ⟨p2, i, j, by omega, ?_⟩
        have e : add y.2 m.p = [(l0 : Int) + i * g0 - n0, (l1 : Int) + j * g1 - n1] := by
          rw [h2, p1]
          simp only [add, lv, List.zipWith_cons_cons, List.zipWith_nil_left]
          rfl
        rw [e, dry2] at hd
        exact ⟨by omega, by omega, h3, e⟩
      · refine .inl ⟨p2, i, j + 1, by omega, ?_, fun z => by rw [z] at hq; cases hq⟩
        show add y.2 m.p = _
        rw [h2, p1]
        simp only [add, lv, List.zipWith_cons_cons, List.zipWith_nil_left]
        have := stp1 j g1
        exact list2 (by omega) (by omega)
    · rw [y1, h.end_] at hm
      simp at hm
theorem pu_0 (h : Pu b g0 g1 l0 l1 n0 n1 q) (i : Nat) : R b (0, [(l0 : Int), (l1 : Int)]) i (0, lv l0 l1 g0 g1 i 0) := by
  induction i with
  | zero =>
    have e : lv l0 l1 g0 g1 0 0 = [(l0 : Int), (l1 : Int)] := by simp [lv]
    rw [e]
    exact .zero
  | succ i ih =>
    obtain ⟨m, hm, p1, p2⟩ := h.p
    obtain ⟨c, hc⟩ := List.mem_iff_getElem?.mp hm
    have e : add (lv l0 l1 g0 g1 i 0) m.p = lv l0 l1 g0 g1 (i + 1) 0 := by
      rw [p1]
      simp only [add, lv, List.zipWith_cons_cons, List.zipWith_nil_left]
      have := stp1 i g0
      exact list2 (by omega) (by omega)
    have := R.succ ih hc (by rw [e, dry2]; exact lv_nn)
    rw [e, p2] at this
    exact this
theorem pu_ij (h : Pu b g0 g1 l0 l1 n0 n1 q) (hq : q = true) (i j : Nat) : R b (0, [(l0 : Int), (l1 : Int)]) (i + j) (0, lv l0 l1 g0 g1 i j) := by
  induction j with
  | zero => exact pu_0 h i
  | succ j ih =>
    obtain ⟨m, hm, p1, p2⟩ := h.q hq
    obtain ⟨c, hc⟩ := List.mem_iff_getElem?.mp hm
    have e : add (lv l0 l1 g0 g1 i j) m.p = lv l0 l1 g0 g1 i (j + 1) := by
      rw [p1]
      simp only [add, lv, List.zipWith_cons_cons, List.zipWith_nil_left]
      have := stp1 j g1
      exact list2 (by omega) (by omega)
    have := R.succ ih hc (by rw [e, dry2]; exact lv_nn)
    rw [e, p2] at this
    exact this
/-- what the numbers of laps are -/
structure Lap (l g n k : Nat) : Prop where
  iff : ∀ i : Nat, (n : Int) ≤ (l : Int) + i * g ↔ k ≤ i
theorem pu_at (h : Pu b g0 g1 l0 l1 n0 n1 q) {k0 k1 : Nat} (hq : q = false → k1 = 0) : R b (0, [(l0 : Int), (l1 : Int)]) (k0 + k1) (0, lv l0 l1 g0 g1 k0 k1) := by
  cases hb : q with
  | true => exact pu_ij h hb k0 k1
  | false =>
    rw [hq hb]
    exact pu_0 h k0
theorem zs2 (h : Pu b g0 g1 l0 l1 n0 n1 q) : zs b = [0, 0] := by
  show List.replicate b.T 0 = _
  rw [h.T]
  rfl
theorem pu_go (h : Pu b g0 g1 l0 l1 n0 n1 q) {k0 k1 : Nat} (hq : q = false → k1 = 0) (L0 : Lap l0 g0 n0 k0) (L1 : Lap l1 g1 n1 k1) {most : Nat} (hm : k0 + k1 + 1 ≤ most) : Due b (0, [(l0 : Int), (l1 : Int)]) (tgt (some 1) (zs b)) most (some (k0 + k1 + 1)) := by
  have a0 := (L0.iff k0).mpr (Nat.le_refl _)
  have a1 := (L1.iff k1).mpr (Nat.le_refl _)
  obtain ⟨m, hmm, p1, p2⟩ := h.go
  obtain ⟨c, hc⟩ := List.mem_iff_getElem?.mp hmm
  have e : add (lv l0 l1 g0 g1 k0 k1) m.p = [(l0 : Int) + k0 * g0 - n0, (l1 : Int) + k1 * g1 - n1] := by
    rw [p1]
    simp only [add, lv, List.zipWith_cons_cons, List.zipWith_nil_left]
    rfl
  have hr := R.succ (pu_at h hq) hc (by rw [e, dry2]; omega)
  rw [e, p2] at hr
  refine ⟨hm, ⟨_, hr, ?_⟩, fun n x hn hr => ?_⟩
  · rw [zs2 h]
    simp only [tgt, gok, decide_true, Bool.true_and]
    rw [ge2]
    omega
  · rcases pu_inv h hr with ⟨y1, _⟩ | ⟨y1, i, j, e1, e2, e3, _⟩
    · simp [tgt, gok, y1]
    · have := (L0.iff i).mp e2
      have := (L1.iff j).mp e3
      omega
theorem pu_no (h : Pu b g0 g1 l0 l1 n0 n1 q) {k0 k1 : Nat} (L0 : Lap l0 g0 n0 k0) (L1 : Lap l1 g1 n1 k1) {most : Nat} (hm : most ≤ k0 + k1) : Due b (0, [(l0 : Int), (l1 : Int)]) (tgt (some 1) (zs b)) most none := by
  intro n x hn hr
  rcases pu_inv h hr with ⟨y1, _⟩ | ⟨y1, i, j, e1, e2, e3, _⟩
  · simp [tgt, gok, y1]
  · have := (L0.iff i).mp e2
    have := (L1.iff j).mp e3
    omega
theorem pu_less (h : Pu b g0 g1 l0 l1 n0 n1 q) {k0 k1 : Nat} (L0 : Lap l0 g0 n0 k0) (L1 : Lap l1 g1 n1 k1) {n : Nat} {x : Place} (hn : n < k0 + k1) (hr : R b (0, [(l0 : Int), (l1 : Int)]) n x) : tgt none [(n0 : Int), (n1 : Int)] x = false := by
  cases ht : tgt none [(n0 : Int), (n1 : Int)] x with
  | false => rfl
  | true =>
    simp only [tgt, gok, Bool.true_and] at ht
    rcases pu_inv h hr with ⟨y1, i, j, e1, e2, _⟩ | ⟨y1, i, j, e1, e2, e3, _⟩
    · rw [e2, ge2] at ht
      have := (L0.iff i).mp ht.1
      have := (L1.iff j).mp ht.2
      omega
    · have := (L0.iff i).mp e2
      have := (L1.iff j).mp e3
      omega
theorem pu_want (h : Pu b g0 g1 l0 l1 n0 n1 q) {k0 k1 : Nat} (hq : q = false → k1 = 0) (L0 : Lap l0 g0 n0 k0) (L1 : Lap l1 g1 n1 k1) {most : Nat} (hm : k0 + k1 ≤ most) : Due b (0, [(l0 : Int), (l1 : Int)]) (tgt none [(n0 : Int), (n1 : Int)]) most (some (k0 + k1)) := by
  have a0 := (L0.iff k0).mpr (Nat.le_refl _)
  have a1 := (L1.iff k1).mpr (Nat.le_refl _)
  refine ⟨hm, ⟨_, pu_at h hq, ?_⟩, fun n x hn hr => pu_less h L0 L1 hn hr⟩
  simp only [tgt, gok, Bool.true_and]
  rw [ge2]
  exact ⟨a0, a1⟩
/-- at the end nothing moves -/
theorem pu_end (h : Pu b g0 g1 l0 l1 n0 n1 q) {l : Lv} {n : Nat} {x : Place} (hr : R b (1, l) n x) : n = 0 ∧ x = (1, l) := by
  induction hr with
  | zero => exact ⟨rfl, rfl⟩
  | succ _ hm _ ih =>
    rw [ih.2] at hm
    rw [h.end_] at hm
    simp at hm
end
/-- the law's own number of laps -/
theorem lap_of {l g n : Nat} (hg : 0 < g) : Lap l g n (-(((l : Int) - n).fdiv g)).toNat := by
  refine ⟨fun i => ?_⟩
  have h1 : ((l : Int) - n).fdiv g = ((l : Int) - n) / g := Int.fdiv_eq_ediv_of_nonneg _ (by omega)
  rw [h1]
  have hg' : (0 : Int) < g := by omega
  have h2 : -(i : Int) ≤ ((l : Int) - n) / g ↔ -(i : Int) * g ≤ (l : Int) - n := Int.le_ediv_iff_mul_le hg'
  have h3 : -(i : Int) * g = -((i : Int) * g) := Int.neg_mul ..
  rw [h3] at h2
  constructor
  · intro h
    have := h2.mpr (by omega)
    omega
  · intro h
    have := h2.mp (by omega)
    omega
theorem laps_ok {need have_ gain : Int} (hg : gain ≠ 0) (hg2 : gain.natAbs < 1073741824) {S : Store} : f__law_laps [.int need, .int have_, .int gain] S = some (.int (max 0 (-((have_ - need).fdiv gain))), S) := by
  refine call_rt0 ?_ rfl
  simp [c__law_laps, sSeq, sSet, sRet, sExpr, sIf, gN, gT, gsCons, gsNil, cVar, cC, cBin, cUn, cNil, cCons, cApp, cB, cTr, cAnd, cOr, cNot, cV, cAndV, cOrV, cNotV, cIf, nD, mkTup, mkLst, mkBox, asQ, asL, negD, addD, subD, cmpD, isND, notND, eqD, neD, eqS, lenD, tupleD, DL.intD, cM, apnd, popM, sPar, sPar3, sNext, sAug, ipD, fdivD, hg, hg2, max2D]
end K88

namespace K88
open PySem PySem.Spec PyProof.Rows L2 DL

theorem cut_fromG {α : Type} (f : α → D) {l : List α} {k : Nat} (hk : k ≤ l.length) : DL.cutD (l.map f) (some (k : Int)) none = (l.drop k).map f := by
  unfold DL.cutD HT.sIx
  have h : ¬ ((k : Int) < 0) := by omega
  have e : min (k : Int).toNat l.length = k := by omega
  simp only [h, if_false, List.length_map]
  rw [← List.map_drop, ← List.map_take, e, List.take_of_length_le]
  rw [List.length_drop]
  omega
theorem cut_toG {α : Type} (f : α → D) {l : List α} {k : Nat} (hk : k ≤ l.length) : DL.cutD (l.map f) none (some (k : Int)) = (l.take k).map f := by
  unfold DL.cutD HT.sIx
  have h : ¬ ((k : Int) < 0) := by omega
  have e : min (k : Int).toNat l.length = k := by omega
  simp only [h, if_false, List.length_map, List.drop_zero, Nat.sub_zero]
  rw [← List.map_take, e]
def mvsP (gr : Bool) (g0 g1 n0 n1 : Nat) : List Mv := if gr = true then [⟨"p", [(g0 : Int), 0], 0⟩, ⟨"go", [-(n0 : Int), -(n1 : Int)], 1⟩] else [⟨"p", [(g0 : Int), 0], 0⟩, ⟨"go", [-(n0 : Int), -(n1 : Int)], 1⟩, ⟨"q", [0, (g1 : Int)], 0⟩]
def bkP (z z2 : Str) (mm : List Mv) (t : Nat) : Bk := ⟨2, [(z, mm.drop t ++ mm.take t), (z2, [])]⟩
theorem rot_mem {mm : List Mv} {t : Nat} {m : Mv} : m ∈ mm.drop t ++ mm.take t ↔ m ∈ mm := by
  rw [List.mem_append, or_comm, ← List.mem_append, List.take_append_drop]
theorem pu_bk {gr : Bool} {g0 g1 l0 l1 n0 n1 t : Nat} {z z2 : Str} : Pu (bkP z z2 (mvsP gr g0 g1 n0 n1) t) g0 g1 l0 l1 n0 n1 (!gr) ∧ WB (bkP z z2 (mvsP gr g0 g1 n0 n1) t) := by
  have h0 : mvs (bkP z z2 (mvsP gr g0 g1 n0 n1) t) 0 = (mvsP gr g0 g1 n0 n1).drop t ++ (mvsP gr g0 g1 n0 n1).take t := rfl
  have hall : ∀ m ∈ mvsP gr g0 g1 n0 n1, (m.p = [(g0 : Int), 0] ∧ m.to = 0) ∨ (m.p = [-(n0 : Int), -(n1 : Int)] ∧ m.to = 1) ∨ ((!gr) = true ∧ m.p = [0, (g1 : Int)] ∧ m.to = 0) := by
    intro m hm
    cases gr <;> simp [mvsP] at hm
    · rcases hm with rfl | rfl | rfl <;> simp
    · rcases hm with rfl | rfl <;> simp
  have hlen : (mvsP gr g0 g1 n0 n1).length ≤ 3 := by cases gr <;> simp [mvsP]
  refine ⟨⟨rfl, rfl, rfl, fun m hm => ?_, ?_, ?_, fun hq => ?_⟩, ⟨by show 1 ≤ 2; omega, by show 2 ≤ 100; omega, by show 2 ≤ 1000; omega, fun s hs => ?_, fun s hs m hm => ?_, fun s hs m hm => ?_⟩⟩
  · rw [h0, rot_mem] at hm
    exact hall m hm
  · refine ⟨⟨"p", [(g0 : Int), 0], 0⟩, ?_, rfl, rfl⟩
    rw [h0, rot_mem]
    cases gr <;> simp [mvsP]
  · refine ⟨⟨"go", [-(n0 : Int), -(n1 : Int)], 1⟩, ?_, rfl, rfl⟩
    rw [h0, rot_mem]
    cases gr <;> simp [mvsP]
  · refine ⟨⟨"q", [0, (g1 : Int)], 0⟩, ?_, rfl, rfl⟩
    rw [h0, rot_mem]
    cases gr
    · simp [mvsP]
    · cases hq
  · have hs' : s = (z, (mvsP gr g0 g1 n0 n1).drop t ++ (mvsP gr g0 g1 n0 n1).take t) ∨ s = (z2, []) := by simpa [bkP] using hs
    rcases hs' with rfl | rfl
    · show ((mvsP gr g0 g1 n0 n1).drop t ++ (mvsP gr g0 g1 n0 n1).take t).length ≤ 1000
      rw [List.length_append, List.length_drop, List.length_take]
      omega
    · show ([] : List Mv).length ≤ 1000
      simp
  · have hs' : s = (z, (mvsP gr g0 g1 n0 n1).drop t ++ (mvsP gr g0 g1 n0 n1).take t) ∨ s = (z2, []) := by simpa [bkP] using hs
    rcases hs' with rfl | rfl
    · rcases hall m (rot_mem.mp hm) with ⟨p, _⟩ | ⟨p, _⟩ | ⟨_, p, _⟩ <;> rw [p] <;> rfl
    · cases hm
  · have hs' : s = (z, (mvsP gr g0 g1 n0 n1).drop t ++ (mvsP gr g0 g1 n0 n1).take t) ∨ s = (z2, []) := by simpa [bkP] using hs
    rcases hs' with rfl | rfl
    · rcases hall m (rot_mem.mp hm) with ⟨_, p⟩ | ⟨_, p⟩ | ⟨_, _, p⟩ <;> rw [p] <;> show _ < 2 <;> omega
    · cases hm
/-- what the law asks of such a book: the sizes -/
theorem pu_all {gr : Bool} {g0 g1 l0 l1 n0 n1 t : Nat} {z z2 : Str} (hg0 : 1 ≤ g0) (hg1 : 1 ≤ g1) (hs : (g0 ≤ 3 ∧ g1 ≤ 3 ∧ l0 ≤ 3 ∧ l1 ≤ 3 ∧ n0 ≤ 8 ∧ n1 ≤ 8) ∨ (g0 = 1 ∧ g1 = 1 ∧ l0 ≤ 8 ∧ l1 = 2 ∧ n0 ≤ 589 ∧ n1 ≤ 2)) (hq : gr = true → n1 ≤ l1) {S : Store} :
    ∃ k0 k1 : Nat, (∀ S, f__law_laps [.int n0, .int l0, .int g0] S = some (.int k0, S)) ∧ (∀ S, f__law_laps [.int n1, .int l1, .int g1] S = some (.int k1, S)) ∧ k0 + k1 ≤ 590 ∧
      f__law_comes [eB (bkP z z2 (mvsP gr g0 g1 n0 n1) t), .int (0 : Nat), eL [(l0 : Int), (l1 : Int)], .int (1 : Nat), .int ((k0 + k1 + 1 : Nat) : Int), .int ((k0 + k1 + 1 : Nat) : Int)] S = some (.bl true, S) ∧
      f__law_comes [eB (bkP z z2 (mvsP gr g0 g1 n0 n1) t), .int (0 : Nat), eL [(l0 : Int), (l1 : Int)], .int (1 : Nat), .int ((k0 + k1 : Nat) : Int), .non] S = some (.bl true, S) ∧
      (∀ d : Nat, d < 3 → f__law_wants [eB (bkP z z2 (mvsP gr g0 g1 n0 n1) t), .int (0 : Nat), eL [(l0 : Int), (l1 : Int)], eL [(n0 : Int), (n1 : Int)], .int ((k0 + k1 + d : Nat) : Int), .int ((k0 + k1 : Nat) : Int)] S = some (.bl true, S)) ∧
      (0 < k0 + k1 → f_fewest_moves [eB (bkP z z2 (mvsP gr g0 g1 n0 n1) t), .int (0 : Nat), eL [(l0 : Int), (l1 : Int)], eL [(n0 : Int), (n1 : Int)], .int ((k0 + k1 - 1 : Nat) : Int)] S = some (.non, S)) ∧
      (∀ d : Nat, d < 5 → f__law_comes [eB (bkP z z2 (mvsP gr g0 g1 n0 n1) t), .int (1 : Nat), eL [(l0 : Int), (l1 : Int)], .int (1 : Nat), .int ((d : Nat) : Int), .int ((0 : Nat) : Int)] S = some (.bl true, S)) ∧
      f_can_come [eB (bkP z z2 (mvsP gr g0 g1 n0 n1) t), .int (1 : Nat), eL [(l0 : Int), (l1 : Int)], .int (0 : Nat), .int ((9 : Nat) : Int)] S = some (.non, S) := by
  obtain ⟨P, W⟩ := pu_bk (gr := gr) (g0 := g0) (g1 := g1) (l0 := l0) (l1 := l1) (n0 := n0) (n1 := n1) (t := t) (z := z) (z2 := z2)
  generalize bkP z z2 (mvsP gr g0 g1 n0 n1) t = b at P W
  have lp : ∀ l g n : Nat, 1 ≤ g → g ≤ 3 → ∃ k, Lap l g n k ∧ ∀ S, f__law_laps [.int n, .int l, .int g] S = some (.int (k : Nat), S) := fun l g n h1 h2 => by
    refine ⟨_, lap_of h1, fun S => ?_⟩
    have h3 : ((g : Nat) : Int).natAbs < 1073741824 := by omega
    rw [laps_ok (by omega) h3]
    have e : max 0 (-(((l : Int) - n).fdiv g)) = (((-(((l : Int) - n).fdiv g)).toNat : Nat) : Int) := by omega
    rw [e]
  obtain ⟨k0, L0, e0⟩ := lp l0 g0 n0 hg0 (by rcases hs with hs | hs <;> omega)
  obtain ⟨k1, L1, e1⟩ := lp l1 g1 n1 hg1 (by rcases hs with hs | hs <;> omega)
  refine ⟨k0, k1, e0, e1, ?_⟩
  · have key : ∀ k0 k1 : Nat, Lap l0 g0 n0 k0 → Lap l1 g1 n1 k1 → k0 + k1 ≤ 590 ∧
      f__law_comes [eB b, .int (0 : Nat), eL [(l0 : Int), (l1 : Int)], .int (1 : Nat), .int ((k0 + k1 + 1 : Nat) : Int), .int ((k0 + k1 + 1 : Nat) : Int)] S = some (.bl true, S) ∧
      f__law_comes [eB b, .int (0 : Nat), eL [(l0 : Int), (l1 : Int)], .int (1 : Nat), .int ((k0 + k1 : Nat) : Int), .non] S = some (.bl true, S) ∧
      (∀ d : Nat, d < 3 → f__law_wants [eB b, .int (0 : Nat), eL [(l0 : Int), (l1 : Int)], eL [(n0 : Int), (n1 : Int)], .int ((k0 + k1 + d : Nat) : Int), .int ((k0 + k1 : Nat) : Int)] S = some (.bl true, S)) ∧
      (0 < k0 + k1 → f_fewest_moves [eB b, .int (0 : Nat), eL [(l0 : Int), (l1 : Int)], eL [(n0 : Int), (n1 : Int)], .int ((k0 + k1 - 1 : Nat) : Int)] S = some (.non, S)) ∧
      (∀ d : Nat, d < 5 → f__law_comes [eB b, .int (1 : Nat), eL [(l0 : Int), (l1 : Int)], .int (1 : Nat), .int ((d : Nat) : Int), .int ((0 : Nat) : Int)] S = some (.bl true, S)) ∧
      f_can_come [eB b, .int (1 : Nat), eL [(l0 : Int), (l1 : Int)], .int (0 : Nat), .int ((9 : Nat) : Int)] S = some (.non, S) := by
      intro k0 k1 L0 L1
      have hk0 : k0 ≤ n0 := (L0.iff n0).mp (by
        have : ((n0 : Int)) ≤ n0 * g0 := by
          have := Nat.le_mul_of_pos_right n0 hg0
          exact_mod_cast this
        omega)
      have hk1 : k1 ≤ n1 := (L1.iff n1).mp (by
        have : ((n1 : Int)) ≤ n1 * g1 := by
          have := Nat.le_mul_of_pos_right n1 hg1
          exact_mod_cast this
        omega)
      have hkq : (!gr) = false → k1 = 0 := fun hz => by
        have hz' : gr = true := by cases gr <;> simp_all
        have := (L1.iff 0).mp (by have := hq hz'; omega)
        omega
      have hkk : k0 + k1 ≤ 589 := by
        rcases hs with ⟨_, _, _, _, a, c⟩ | ⟨_, _, _, c0, a, c⟩
        · omega
        · have := (L1.iff 0).mp (by omega)
          omega
      have hl : ([(l0 : Int), (l1 : Int)] : Lv).length = b.T := by rw [P.T]; rfl
      have hw : ([(n0 : Int), (n1 : Int)] : Lv).length = b.T := by rw [P.T]; rfl
      have hd : dry [(l0 : Int), (l1 : Int)] = false := by rw [dry2]; omega
      have h01 : 0 < b.sts.length ∧ 1 < b.sts.length := by rw [P.n]; omega
      have hbase : ∀ y ∈ ([(l0 : Int), (l1 : Int)] : Lv), y ≤ ((8 : Nat) : Int) := fun y hy => by
        have : y = l0 ∨ y = l1 := by simpa using hy
        rcases hs with hs | hs <;> omega
      have hgg : ∀ s, ∀ m ∈ mvs b s, ∀ y ∈ m.p, y ≤ ((max g0 g1 : Nat) : Int) := fun s m hm y hy => by
        by_cases h0 : s = 0
        · subst h0
          rcases P.only m hm with ⟨e, _⟩ | ⟨e, _⟩ | ⟨_, e, _⟩ <;> rw [e] at hy <;> simp at hy <;> omega
        · by_cases h1 : s = 1
          · subst h1
            rw [P.end_] at hm
            simp at hm
          · have : mvs b s = [] := by
              unfold mvs
              rw [List.getElem?_eq_none (by rw [P.n]; omega)]
            rw [this] at hm
            simp at hm
      have univ0 : ∀ s, s < b.sts.length → ∃ U : List Place, U.length ≤ 2000000 ∧ ∀ n x, n ≤ k0 + k1 + 10 → R b (s, [(l0 : Int), (l1 : Int)]) n x → x ∈ U := fun s hs' => by
        obtain ⟨U, h1, h2⟩ := univ W hs' hl hd hbase hgg (k0 + k1 + 10)
        refine ⟨U, ?_, h2⟩
        rw [h1, P.T, P.n]
        have hbd : 8 + (k0 + k1 + 10) * max g0 g1 + 1 ≤ 700 := by
          rcases hs with ⟨a1, a2, _, _, a3, a4⟩ | ⟨a1, a2, _⟩
          · have : (k0 + k1 + 10) * max g0 g1 ≤ 26 * 3 := Nat.mul_le_mul (by omega) (by omega)
            omega
          · have : (k0 + k1 + 10) * max g0 g1 ≤ (k0 + k1 + 10) * 1 := Nat.mul_le_mul_left _ (by omega)
            omega
        have := Nat.pow_le_pow_left hbd 2
        omega
      obtain ⟨U0, u1, u2⟩ := univ0 0 h01.1
      obtain ⟨U1, v1, v2⟩ := univ0 1 h01.2
      have u1' : U0.length < sizeLine := by rw [sizeLine_eq]; omega
      have v1' : U1.length < sizeLine := by rw [sizeLine_eq]; omega
      have hT10 : b.T ≤ 10 := by rw [P.T]; omega
      refine ⟨by omega, ?_, ?_, fun d hd3 => ?_, fun hpos => ?_, fun d hd5 => ?_, ?_⟩
      · exact comes_ok W hT10 h01.1 hl hd (by omega) (fun n x hn => u2 n x (by omega)) u1' (due := some (k0 + k1 + 1)) (pu_go P hkq L0 L1 (Nat.le_refl _))
      · exact comes_ok W hT10 h01.1 hl hd (by omega) (fun n x hn => u2 n x (by omega)) u1' (due := none) (pu_no P L0 L1 (Nat.le_refl _))
      · exact wants_ok W hT10 h01.1 hl hw hd (by omega) (fun n x hn => u2 n x (by omega)) u1' (due := some (k0 + k1)) (pu_want P hkq L0 L1 (by omega))
      · obtain ⟨r, r1, r2⟩ := fewest_ok (S := S) W (wt := [(n0 : Int), (n1 : Int)]) (most := k0 + k1 - 1) h01.1 hl (by omega) (fun n x hn => u2 n x (by omega)) u1'
        cases r with
        | none => exact r2
        | some ns =>
          obtain ⟨b1, ms, s', b2, b3, b4, b5⟩ := r1
          have hr := Wk.r (k := 0) (y := ((0 : Nat), [(l0 : Int), (l1 : Int)])) .zero b2 b4
          have := pu_less P L0 L1 (by omega) hr
          rw [this] at b3
          cases b3
      · refine comes_ok W hT10 h01.2 hl hd (by omega) (fun n x hn => v2 n x (by omega)) v1' (due := some 0) ⟨Nat.zero_le _, ⟨_, .zero, ?_⟩, fun n x hn => by omega⟩
        rw [zs2 P]
        simp only [tgt, gok, decide_true, Bool.true_and]
        rw [ge2]
        omega
      · obtain ⟨r, r1, r2⟩ := cancome_ok (S := S) W (g := 0) (most := 9) h01.2 hl (by omega) (fun n x hn => v2 n x (by omega)) v1'
        cases r with
        | none => exact r2
        | some ns =>
          obtain ⟨b1, ms, s', b2, b3, b4, b5⟩ := r1
          have hr := Wk.r (k := 0) (y := ((1 : Nat), [(l0 : Int), (l1 : Int)])) .zero b2 b4
          obtain ⟨_, hx⟩ := pu_end P hr
          rw [hx] at b3
          simp [tgt, gok] at b3
    exact key k0 k1 L0 L1
end K88

namespace K88
open PySem PySem.Spec PyProof.Rows L2 DL

theorem pumps_ok {ds : List Int} (hd : 11 ≤ ds.length) {gr : Bool} {S : Store} : f__law_pumps [eDs ds, .bl gr] S = some (.bl true, S) := by
  have z0 : (0 : Nat) ≤ sizeLine := Nat.zero_le _
  have z1 : (1 : Nat) ≤ sizeLine := by rw [sizeLine_eq]; omega
  have z2 : (2 : Nat) ≤ sizeLine := by rw [sizeLine_eq]; omega
  have z3 : (3 : Nat) ≤ sizeLine := by rw [sizeLine_eq]; omega
  have ix : ∀ i : Nat, i < 11 → ∀ S0 : Store, ixD (eDs ds) (.int (i : Nat)) S0 = some (.int (dv ds i), S0) := fun i hi S0 => ixDs (by omega) (by omega)
  have mds : ∀ (a : Int) (n : Nat), 0 < n → ∀ S0 : Store, modD (.int a) (.int (n : Nat)) S0 = some (.int (md a n : Nat), S0) := fun a n hn S0 => mod_md hn
  have i2 : ∀ S0 : Store, ixD (eDs ds) (.int 2) S0 = some (.int (dv ds 2), S0) := ix 2 (by omega)
  have i3 : ∀ S0 : Store, ixD (eDs ds) (.int 3) S0 = some (.int (dv ds 3), S0) := ix 3 (by omega)
  have i4 : ∀ S0 : Store, ixD (eDs ds) (.int 4) S0 = some (.int (dv ds 4), S0) := ix 4 (by omega)
  have i5 : ∀ S0 : Store, ixD (eDs ds) (.int 5) S0 = some (.int (dv ds 5), S0) := ix 5 (by omega)
  have i6 : ∀ S0 : Store, ixD (eDs ds) (.int 6) S0 = some (.int (dv ds 6), S0) := ix 6 (by omega)
  have i7 : ∀ S0 : Store, ixD (eDs ds) (.int 7) S0 = some (.int (dv ds 7), S0) := ix 7 (by omega)
  have i8 : ∀ S0 : Store, ixD (eDs ds) (.int 8) S0 = some (.int (dv ds 8), S0) := ix 8 (by omega)
  have i9 : ∀ S0 : Store, ixD (eDs ds) (.int 9) S0 = some (.int (dv ds 9), S0) := ix 9 (by omega)
  have i10 : ∀ S0 : Store, ixD (eDs ds) (.int 10) S0 = some (.int (dv ds 10), S0) := ix 10 (by omega)
  have m2 : ∀ (a : Int) (S0 : Store), modD (.int a) (.int 2) S0 = _ := fun a => mds a 2 (by omega)
  have m3 : ∀ (a : Int) (S0 : Store), modD (.int a) (.int 3) S0 = _ := fun a => mds a 3 (by omega)
  have m4 : ∀ (a : Int) (S0 : Store), modD (.int a) (.int 4) S0 = _ := fun a => mds a 4 (by omega)
  have m5 : ∀ (a : Int) (S0 : Store), modD (.int a) (.int 5) S0 = _ := fun a => mds a 5 (by omega)
  have m9 : ∀ (a : Int) (S0 : Store), modD (.int a) (.int 9) S0 = _ := fun a => mds a 9 (by omega)
  have m500 : ∀ (a : Int) (S0 : Store), modD (.int a) (.int 500) S0 = _ := fun a => mds a 500 (by omega)
  refine call_ev ?_ rfl
  unfold c__law_pumps
  have hc := cLC_map (S := S) (ρ := [some (eDs ds), some (.bl gr), none, none, none, none, none, none, none, none, none]) (vs := [10]) (ci := cRng1 (cC (.int 2))) (g := gN 10) (e := cBin addD (cC (.int 1)) (cBin modD (cApp DL.intD (cCons (cBin ixD (cVar 0) (cVar 10)) cNil)) (cC (.int 3))))
    (l := List.range 2) (fun i => D.int (i : Nat)) (fun k => .int ((1 + md (dv ds k) 3 : Nat) : Int)) (rng1 (n := 2) rfl (by omega)) rfl (small (by simp))
    (fun k hk => ⟨_, rfl, by
      have h1 := List.mem_range.mp hk
      simp only [wipeD, cBin, cApp, cCons, cNil, cVar, cC, List.set_cons_zero, List.set_cons_succ, List.getElem?_cons_zero, List.getElem?_cons_succ, ix k (by omega), int1, m3, addD]
      simp⟩)
  refine Ev.seq (Ev.setN (d := .lst [.int ((1 + md (dv ds 0) 3 : Nat) : Int), .int ((1 + md (dv ds 1) 3 : Nat) : Int)]) (S' := S) hc ?_)
  simp only [List.map_cons, List.map_nil, List.length_cons, List.length_nil, Nat.zero_add, Nat.reduceAdd, Nat.reduceSub, List.replicate, List.cons_append, List.nil_append, List.set_cons_zero, List.set_cons_succ]
  refine Ev.seq (Ev.setN (d := eL [((md (dv ds 2) 4 : Nat) : Int), ((md (dv ds 3) 4 : Nat) : Int)]) (S' := S) (by
    simp only [cBin, cApp, cCons, cNil, cVar, cC, List.getElem?_cons_zero, List.getElem?_cons_succ, i2, i3, int1, m4, mkTup, List.length_cons, List.length_nil, Nat.zero_add, Nat.reduceAdd, z2, if_true]
    rfl) ?_)
  simp only [List.set_cons_zero, List.set_cons_succ]
  refine Ev.seq (Ev.setN (d := eL [((md (dv ds 4) 9 : Nat) : Int), ((md (dv ds 5) 9 : Nat) : Int)]) (S' := S) (by
    simp only [cBin, cApp, cCons, cNil, cVar, cC, List.getElem?_cons_zero, List.getElem?_cons_succ, i4, i5, int1, m9, mkTup, List.length_cons, List.length_nil, Nat.zero_add, Nat.reduceAdd, z2, if_true]
    rfl) ?_)
  simp only [List.set_cons_zero, List.set_cons_succ]
  have b0 := md_lt (a := dv ds 0) (n := 3) (by omega)
  have b1 := md_lt (a := dv ds 1) (n := 3) (by omega)
  have b2 := md_lt (a := dv ds 2) (n := 4) (by omega)
  have b3 := md_lt (a := dv ds 3) (n := 4) (by omega)
  have b4 := md_lt (a := dv ds 4) (n := 9) (by omega)
  have b5 := md_lt (a := dv ds 5) (n := 9) (by omega)
  have c2 := md_lt (a := dv ds 2) (n := 9) (by omega)
  have c4 := md_lt (a := dv ds 4) (n := 500) (by omega)
  have c5 := md_lt (a := dv ds 5) (n := 3) (by omega)
  obtain ⟨g0, g1, l0, l1, n0, n1, hg0, hg1, hs, hq, hstep⟩ : ∃ g0 g1 l0 l1 n0 n1 : Nat, 1 ≤ g0 ∧ 1 ≤ g1 ∧ ((g0 ≤ 3 ∧ g1 ≤ 3 ∧ l0 ≤ 3 ∧ l1 ≤ 3 ∧ n0 ≤ 8 ∧ n1 ≤ 8) ∨ (g0 = 1 ∧ g1 = 1 ∧ l0 ≤ 8 ∧ l1 = 2 ∧ n0 ≤ 589 ∧ n1 ≤ 2)) ∧ (gr = true → n1 ≤ l1) ∧
      (sIf (cTr (cVar 1)) (sPar3 2 3 4 (cCons (cApp mkLst (cCons (cC (.int 1)) (cCons (cC (.int 1)) cNil))) (cCons (cApp mkTup (cCons (cBin modD (cApp DL.intD (cCons (cBin ixD (cVar 0) (cC (.int 2))) cNil)) (cC (.int 9))) (cCons (cC (.int 2)) cNil))) (cCons (cApp mkTup (cCons (cBin addD (cC (.int 90)) (cBin modD (cApp DL.intD (cCons (cBin ixD (cVar 0) (cC (.int 4))) cNil)) (cC (.int 500)))) (cCons (cBin modD (cApp DL.intD (cCons (cBin ixD (cVar 0) (cC (.int 5))) cNil)) (cC (.int 3))) cNil))) cNil)))) sNext)
        [some (eDs ds), some (.bl gr), some (.lst [.int ((1 + md (dv ds 0) 3 : Nat) : Int), .int ((1 + md (dv ds 1) 3 : Nat) : Int)]), some (eL [((md (dv ds 2) 4 : Nat) : Int), ((md (dv ds 3) 4 : Nat) : Int)]), some (eL [((md (dv ds 4) 9 : Nat) : Int), ((md (dv ds 5) 9 : Nat) : Int)]), none, none, none, none, none, none] S
        = some (.nx [some (eDs ds), some (.bl gr), some (.lst [.int (g0 : Nat), .int (g1 : Nat)]), some (eL [(l0 : Int), (l1 : Int)]), some (eL [(n0 : Int), (n1 : Int)]), none, none, none, none, none, none] S) := by
    cases gr with
    | false => exact ⟨_, _, _, _, _, _, by omega, by omega, .inl ⟨by omega, by omega, by omega, by omega, by omega, by omega⟩, fun z => by (cases z), rfl⟩
    | true =>
      refine ⟨1, 1, md (dv ds 2) 9, 2, 90 + md (dv ds 4) 500, md (dv ds 5) 3, by omega, by omega, .inr ⟨rfl, rfl, by omega, rfl, by omega, by omega⟩, fun _ => by omega, ?_⟩
      simp only [sIf, cTr, cVar, List.getElem?_cons_zero, List.getElem?_cons_succ, truD, Option.map_some, sPar3, cBin, cApp, cCons, cNil, cC, i2, i4, i5, int1, m9, m500, m3, addD, mkLst, mkTup, List.length_cons, List.length_nil, Nat.zero_add, Nat.reduceAdd, z2, if_true, List.set_cons_zero, List.set_cons_succ]
      rfl
  refine Ev.seq ⟨_, hstep, ?_⟩
  obtain ⟨ow, how⟩ := name_ok (i := md (dv ds 6) 2) (md_lt (by omega))
  obtain ⟨ow2, how2⟩ := name_ok (i := md (dv ds 8) 2) (md_lt (by omega))
  refine Ev.seq (Ev.setN (d := .str ow) (S' := S) (by
    simp only [cBin, cApp, cCons, cNil, cVar, cC, List.getElem?_cons_zero, List.getElem?_cons_succ, i6, int1, m2, mkLst, List.length_cons, List.length_nil, Nat.zero_add, Nat.reduceAdd, z2, if_true, how]) ?_)
  simp only [List.set_cons_zero, List.set_cons_succ]
  have hm3 : mvsP false g0 g1 n0 n1 = [⟨"p", [(g0 : Int), 0], 0⟩, ⟨"go", [-(n0 : Int), -(n1 : Int)], 1⟩, ⟨"q", [0, (g1 : Int)], 0⟩] := rfl
  have x0 : ∀ (a c : D) (S0 : Store), ixD (.lst [a, c]) (.int 0) S0 = some (a, S0) := fun _ _ _ => rfl
  have x1 : ∀ (a c : D) (S0 : Store), ixD (.lst [a, c]) (.int 1) S0 = some (c, S0) := fun _ _ _ => rfl
  have y0 : ∀ (a c : Int) (S0 : Store), ixD (eL [a, c]) (.int 0) S0 = some (.int a, S0) := fun _ _ _ => rfl
  have y1 : ∀ (a c : Int) (S0 : Store), ixD (eL [a, c]) (.int 1) S0 = some (.int c, S0) := fun _ _ _ => rfl
  refine Ev.seq (Ev.setN (d := .lst ((mvsP false g0 g1 n0 n1).map eM)) (S' := S) (by
    simp only [cBin, cUn, cApp, cCons, cNil, cVar, cC, List.getElem?_cons_zero, List.getElem?_cons_succ, x0, x1, y0, y1, negD, mkTup, mkLst, List.length_cons, List.length_nil, Nat.zero_add, Nat.reduceAdd, z2, z3, if_true, hm3]
    rfl) ?_)
  simp only [List.set_cons_zero, List.set_cons_succ]
  have hml : (mvsP false g0 g1 n0 n1).length = 3 := rfl
  have hsl : ∀ (x7 x8 x9 : Option D), (cIf (cTr (cVar 1)) (cSl false (cVar 6) oNo (oSome (cC (.int 2)))) (cVar 6)) [some (eDs ds), some (.bl gr), some (.lst [.int (g0 : Nat), .int (g1 : Nat)]), some (eL [(l0 : Int), (l1 : Int)]), some (eL [(n0 : Int), (n1 : Int)]), some (.str ow), some (.lst ((mvsP false g0 g1 n0 n1).map eM)), x7, x8, x9, none] S = some (.lst ((mvsP gr g0 g1 n0 n1).map eM), S) := by
    intro x7 x8 x9
    cases gr with
    | false => rfl
    | true =>
      have := cut_toG eM (l := mvsP false g0 g1 n0 n1) (k := 2) (by rw [hml]; omega)
      have this' : DL.cutD ((mvsP false g0 g1 n0 n1).map eM) none (some 2) = ((mvsP false g0 g1 n0 n1).take 2).map eM := this
      simp only [cIf, cTr, cVar, List.getElem?_cons_zero, List.getElem?_cons_succ, truD, Option.map_some, cSl, oNo, oSome, cC, slD, asQ, asL, this', Bool.false_eq_true, if_false]
      rfl
  refine Ev.seq (Ev.setN (d := .lst ((mvsP gr g0 g1 n0 n1).map eM)) (S' := S) (hsl none none none) ?_)
  simp only [List.set_cons_zero, List.set_cons_succ]
  have hlen : 2 ≤ (mvsP gr g0 g1 n0 n1).length ∧ (mvsP gr g0 g1 n0 n1).length ≤ 3 := by cases gr <;> simp [mvsP]
  obtain ⟨t, ht⟩ : ∃ t, t = md (dv ds 7) (mvsP gr g0 g1 n0 n1).length := ⟨_, rfl⟩
  have htl : t < (mvsP gr g0 g1 n0 n1).length := by rw [ht]; exact md_lt (by omega)
  refine Ev.seq (Ev.setN (d := .int t) (S' := S) (by
    rw [ht]
    simp only [cBin, cApp, cCons, cNil, cVar, cC, List.getElem?_cons_zero, List.getElem?_cons_succ, i7, int1, lenD, asQ, asL, List.length_map, mds _ _ (by omega : 0 < (mvsP gr g0 g1 n0 n1).length)]) ?_)
  simp only [List.set_cons_zero, List.set_cons_succ]
  have hf1 := cut_fromG eM (l := mvsP gr g0 g1 n0 n1) (k := t) (by omega)
  have hf2 := cut_toG eM (l := mvsP gr g0 g1 n0 n1) (k := t) (by omega)
  have hadd : addD (.lst (((mvsP gr g0 g1 n0 n1).drop t).map eM)) (.lst (((mvsP gr g0 g1 n0 n1).take t).map eM)) S = some (.lst (((mvsP gr g0 g1 n0 n1).drop t ++ (mvsP gr g0 g1 n0 n1).take t).map eM), S) := by
    simp only [addD, asL, List.length_map, List.length_drop, List.length_take]
    rw [if_pos (by rw [sizeLine_eq]; omega), List.map_append]
  refine Ev.seq (Ev.setN (d := eB (bkP ow ow2 (mvsP gr g0 g1 n0 n1) t)) (S' := S) (by
    simp only [cSl, oNo, oSome, slD, cBin, cApp, cCons, cNil, cVar, cC, List.getElem?_cons_zero, List.getElem?_cons_succ, asQ, asL, hf1, hf2, Bool.false_eq_true, if_false, hadd, tupleD, i8, int1, m2, mkLst, mkTup, List.length_cons, List.length_nil, Nat.zero_add, Nat.reduceAdd, z0, z2, if_true, how2]
    rfl) ?_)
  simp only [List.set_cons_zero, List.set_cons_succ]
  obtain ⟨k0, k1, p1, p2, p3, p4, p5, p6, p7, p8, p9⟩ := pu_all (gr := gr) (t := t) (z := ow) (z2 := ow2) hg0 hg1 hs hq (S := S)
  have e3 := md_lt (a := dv ds 9) (n := 3) (by omega)
  have e5 := md_lt (a := dv ds 10) (n := 5) (by omega)
  refine Ev.seq (Ev.setN (d := .int ((k0 + k1 : Nat) : Int)) (S' := S) (by
    simp only [cBin, cApp, cCons, cNil, cVar, cC, nD, List.length_cons, List.length_nil, Nat.zero_add, Nat.reduceAdd, if_true, List.getElem?_cons_zero, List.getElem?_cons_succ, x0, x1, y0, y1, p1, p2, addD]
    simp) ?_)
  simp only [List.set_cons_zero, List.set_cons_succ]
  have q1 : ∀ S0 : Store, addD (.int ((k0 + k1 : Nat) : Int)) (.int 1) S0 = some (.int ((k0 + k1 + 1 : Nat) : Int), S0) := fun _ => by simp [addD]
  have q2 : ∀ S0 : Store, addD (.int ((k0 + k1 : Nat) : Int)) (.int ((md (dv ds 9) 3 : Nat) : Int)) S0 = some (.int ((k0 + k1 + md (dv ds 9) 3 : Nat) : Int), S0) := fun _ => by simp [addD]
  have p4' : f__law_comes [eB (bkP ow ow2 (mvsP gr g0 g1 n0 n1) t), .int 0, eL [(l0 : Int), (l1 : Int)], .int 1, .int ((k0 + k1 + 1 : Nat) : Int), .int ((k0 + k1 + 1 : Nat) : Int)] S = some (.bl true, S) := p4
  have p5' : f__law_comes [eB (bkP ow ow2 (mvsP gr g0 g1 n0 n1) t), .int 0, eL [(l0 : Int), (l1 : Int)], .int 1, .int ((k0 + k1 : Nat) : Int), .non] S = some (.bl true, S) := p5
  have p6' : f__law_wants [eB (bkP ow ow2 (mvsP gr g0 g1 n0 n1) t), .int 0, eL [(l0 : Int), (l1 : Int)], eL [(n0 : Int), (n1 : Int)], .int ((k0 + k1 + md (dv ds 9) 3 : Nat) : Int), .int ((k0 + k1 : Nat) : Int)] S = some (.bl true, S) := p6 _ e3
  have p8' : f__law_comes [eB (bkP ow ow2 (mvsP gr g0 g1 n0 n1) t), .int 1, eL [(l0 : Int), (l1 : Int)], .int 1, .int ((md (dv ds 10) 5 : Nat) : Int), .int 0] S = some (.bl true, S) := p8 _ e5
  have p9' : f_can_come [eB (bkP ow ow2 (mvsP gr g0 g1 n0 n1) t), .int 1, eL [(l0 : Int), (l1 : Int)], .int 0, .int 9] S = some (.non, S) := p9
  refine Ev.seq (Ev.ifF (S' := S) (by
    simp only [cOr, cNot, cB, cBin, cApp, cCons, cNil, cVar, cC, nD, List.length_cons, List.length_nil, Nat.zero_add, Nat.reduceAdd, if_true, List.getElem?_cons_zero, List.getElem?_cons_succ, q1, p4', p5', Bool.not_true]) (Ev.next ?_))
  refine Ev.seq (Ev.ifF (S' := S) (by
    simp only [cNot, cB, cBin, cApp, cCons, cNil, cVar, cC, nD, List.length_cons, List.length_nil, Nat.zero_add, Nat.reduceAdd, if_true, List.getElem?_cons_zero, List.getElem?_cons_succ, i9, int1, m3, q2, p6', Bool.not_true]) (Ev.next ?_))
  refine Ev.seq (Ev.ifF (S' := S) (by
    by_cases hpos : 0 < k0 + k1
    · have h1 : decide ((0 : Int) < ((k0 + k1 : Nat) : Int)) = true := by simp; omega
      have h2 : ∀ S0 : Store, subD (.int ((k0 + k1 : Nat) : Int)) (.int 1) S0 = some (.int ((k0 + k1 - 1 : Nat) : Int), S0) := fun _ => by
        have : ((k0 + k1 : Nat) : Int) - 1 = ((k0 + k1 - 1 : Nat) : Int) := by omega
        simp only [subD, this]
      have p7' : f_fewest_moves [eB (bkP ow ow2 (mvsP gr g0 g1 n0 n1) t), .int 0, eL [(l0 : Int), (l1 : Int)], eL [(n0 : Int), (n1 : Int)], .int ((k0 + k1 - 1 : Nat) : Int)] S = some (.non, S) := p7 hpos
      simp only [cAnd, cB, cBin, cApp, cCons, cNil, cVar, cC, nD, List.length_cons, List.length_nil, Nat.zero_add, Nat.reduceAdd, if_true, List.getElem?_cons_zero, List.getElem?_cons_succ, cmpD, h1, h2, p7', notND]
    · have h1 : decide ((0 : Int) < ((k0 + k1 : Nat) : Int)) = false := by simp; omega
      simp only [cAnd, cB, cBin, cVar, cC, List.getElem?_cons_zero, List.getElem?_cons_succ, cmpD, h1]) (Ev.next ?_))
  refine Ev.ret (d := .bl true) (S' := S) ?_ ⟨[], by simp⟩
  simp only [cAndV, cBin, cApp, cCons, cNil, cVar, cC, nD, List.length_cons, List.length_nil, Nat.zero_add, Nat.reduceAdd, if_true, List.getElem?_cons_zero, List.getElem?_cons_succ, i10, int1, m5, p8', p9', isND]
end K88

namespace K88
open PySem PySem.Spec PyProof.Rows L2 DL

/-! the ring -/
def bkR (ps : List Int) (many : Nat) : Bk := ⟨1, (List.range many).map fun (k : Nat) => (("house" : Str), [Mv.mk "on" [dv ps (k : Int)] (md ((k : Int) + 1) many)])⟩
def num (ps : List Int) (many start level : Nat) : Nat → Int
  | 0 => level
  | n + 1 => num ps many start level n + dv ps ((start + n) % many : Nat)
section
variable {ps : List Int} {many start level : Nat}
theorem md_nat {a n : Nat} (h : 0 < n) : md (a : Int) n = a % n := by
  unfold md
  rw [Int.fmod_eq_emod_of_nonneg _ (by omega)]
  omega
theorem mvs_R {s : Nat} (h : s < many) : mvs (bkR ps many) s = [Mv.mk "on" [dv ps s] ((s + 1) % many)] := by
  have e : (bkR ps many).sts[s]? = some (("house" : Str), [Mv.mk "on" [dv ps s] (md ((s : Int) + 1) many)]) := by
    show ((List.range many).map _)[s]? = _
    rw [List.getElem?_map, List.getElem?_range h]
    rfl
  unfold mvs
  rw [e]
  have e2 : md ((s : Int) + 1) many = (s + 1) % many := by
    have := md_nat (a := s + 1) (n := many) (by omega)
    exact_mod_cast this
  simp only [e2]
theorem wb_R (h1 : 1 ≤ many) (h2 : many ≤ 24) : WB (bkR ps many) := by
  have hl : (bkR ps many).sts.length = many := by simp [bkR]
  refine ⟨by show 1 ≤ 1; omega, by show 1 ≤ 100; omega, by rw [hl]; omega, fun s hs => ?_, fun s hs m hm => ?_, fun s hs m hm => ?_⟩
  · obtain ⟨k, _, rfl⟩ := List.mem_map.mp hs
    simp
  · obtain ⟨k, _, rfl⟩ := List.mem_map.mp hs
    rw [List.mem_singleton.mp hm]
    rfl
  · obtain ⟨k, _, rfl⟩ := List.mem_map.mp hs
    rw [List.mem_singleton.mp hm]
    show md ((k : Int) + 1) many < (bkR ps many).sts.length
    rw [hl]
    exact md_lt (n := many) (by omega)
theorem dry1 {x : Int} : dry [x] = false ↔ 0 ≤ x := by simp [dry]
theorem ge1 {x y : Int} : geB [x] [y] = true ↔ y ≤ x := by simp [geB]
theorem mod_next {a : Nat} (h : 0 < many) : (a % many + 1) % many = (a + 1) % many := by
  rw [Nat.add_mod, Nat.mod_mod, ← Nat.add_mod]
theorem R_ring (h1 : 1 ≤ many) (hs : start < many) {n : Nat} {x : Place} (hr : R (bkR ps many) (start, [(level : Int)]) n x) : x = ((start + n) % many, [num ps many start level n]) ∧ ∀ i, i ≤ n → 0 ≤ num ps many start level i := by
  induction hr with
  | zero =>
    refine ⟨by rw [Nat.add_zero, Nat.mod_eq_of_lt hs]; rfl, fun i hi => ?_⟩
    have : i = 0 := by omega
    subst this
    show (0 : Int) ≤ level
    omega
  | @succ k y c m hr hm hd ih =>
    obtain ⟨e, hn⟩ := ih
    rw [e] at hm hd ⊢
    rw [mvs_R (Nat.mod_lt _ (by omega))] at hm
    have hm' := List.mem_singleton.mp (List.mem_of_getElem? hm)
    subst hm'
    have e2 : add [num ps many start level k] [dv ps (((start + k) % many : Nat) : Int)] = [num ps many start level (k + 1)] := rfl
    refine ⟨?_, fun i hi => ?_⟩
    · show (((start + k) % many + 1) % many, add [num ps many start level k] [dv ps (((start + k) % many : Nat) : Int)]) = _
      rw [mod_next (by omega), e2]
      rfl
    · by_cases hik : i ≤ k
      · exact hn i hik
      · have : i = k + 1 := by omega
        subst this
        have hd' : dry [num ps many start level (k + 1)] = false := hd
        exact dry1.mp hd'
theorem R_go (h1 : 1 ≤ many) (hs : start < many) : ∀ n, (∀ i, i ≤ n → 0 ≤ num ps many start level i) → R (bkR ps many) (start, [(level : Int)]) n ((start + n) % many, [num ps many start level n])
  | 0, _ => by
    rw [Nat.add_zero, Nat.mod_eq_of_lt hs]
    exact .zero
  | n + 1, h => by
    have ih := R_go h1 hs n fun i hi => h i (by omega)
    have hm : (mvs (bkR ps many) ((start + n) % many))[0]? = some (Mv.mk "on" [dv ps (((start + n) % many : Nat) : Int)] (((start + n) % many + 1) % many)) := by
      rw [mvs_R (Nat.mod_lt _ (by omega))]
      rfl
    have := R.succ ih hm (by
      show dry [num ps many start level (n + 1)] = false
      exact dry1.mpr (h (n + 1) (Nat.le_refl _)))
    have e : (((start + n) % many + 1) % many, add [num ps many start level n] [dv ps (((start + n) % many : Nat) : Int)]) = ((start + (n + 1)) % many, [num ps many start level (n + 1)]) := by
      rw [mod_next (by omega)]
      rfl
    rw [← e]
    exact this
theorem far_iff (h1 : 1 ≤ many) (hs : start < many) {goal far n : Nat} (hg : goal < many) (hf : far = md ((goal : Int) - start) many) : far < many ∧ (start + far) % many = goal ∧ ((start + n) % many = goal → far ≤ n) := by
  have hfl : far < many := by rw [hf]; exact md_lt (by omega)
  have he : far = if start ≤ goal then goal - start else goal + many - start := by
    rw [hf]
    unfold md
    rw [Int.fmod_eq_emod_of_nonneg _ (by omega)]
    by_cases h : start ≤ goal
    · rw [if_pos h, Int.emod_eq_of_lt (by omega) (by omega)]
      omega
    · rw [if_neg h]
      have : ((goal : Int) - start) % many = (goal : Int) - start + many := by
        rw [← Int.add_emod_right, Int.emod_eq_of_lt (by omega) (by omega)]
      rw [this]
      omega
  refine ⟨hfl, ?_, fun hn => ?_⟩
  · by_cases h : start ≤ goal
    · rw [if_pos h] at he
      rw [he, show start + (goal - start) = goal by omega, Nat.mod_eq_of_lt hg]
    · rw [if_neg h] at he
      rw [he, show start + (goal + many - start) = goal + many by omega, Nat.add_mod_right, Nat.mod_eq_of_lt hg]
  · by_cases hlt : n < far
    · exfalso
      by_cases h : start ≤ goal
      · rw [if_pos h] at he
        rw [Nat.mod_eq_of_lt (by omega)] at hn
        omega
      · rw [if_neg h] at he
        by_cases h2 : start + n < many
        · rw [Nat.mod_eq_of_lt h2] at hn
          omega
        · rw [Nat.mod_eq_sub_mod (by omega), Nat.mod_eq_of_lt (by omega)] at hn
          omega
    · omega
/-- due, for the goal -/
theorem ring_goal (h1 : 1 ≤ many) (hs : start < many) {goal far most : Nat} (hg : goal < many) (hf : far = md ((goal : Int) - start) many) {comes : Bool} (hc : comes = true ↔ ∀ i, i ≤ far → 0 ≤ num ps many start level i) :
    Due (bkR ps many) (start, [(level : Int)]) (tgt (some goal) (zs (bkR ps many))) most (if comes = true ∧ far ≤ most then some far else none) := by
  have hz : zs (bkR ps many) = [0] := rfl
  obtain ⟨f1, f2, _⟩ := far_iff (n := 0) h1 hs hg hf
  have f3 : ∀ n, (start + n) % many = goal → far ≤ n := fun n => (far_iff h1 hs hg hf).2.2
  split
  · rename_i hcm
    have ha := hc.mp hcm.1
    refine ⟨hcm.2, ⟨_, R_go h1 hs far ha, ?_⟩, fun n x hn hr => ?_⟩
    · rw [hz]
      simp only [tgt, gok, f2, decide_true, Bool.true_and]
      exact ge1.mpr (ha far (Nat.le_refl _))
    · obtain ⟨rfl, _⟩ := R_ring h1 hs hr
      cases ht : tgt (some goal) (zs (bkR ps many)) ((start + n) % many, [num ps many start level n]) with
      | false => rfl
      | true =>
        simp only [tgt, gok, Bool.and_eq_true, decide_eq_true_eq] at ht
        have := f3 n ht.1
        omega
  · rename_i hcm
    intro n x hn hr
    obtain ⟨rfl, ha⟩ := R_ring h1 hs hr
    cases ht : tgt (some goal) (zs (bkR ps many)) ((start + n) % many, [num ps many start level n]) with
    | false => rfl
    | true =>
      simp only [tgt, gok, Bool.and_eq_true, decide_eq_true_eq] at ht
      have hfn := f3 n ht.1
      exact absurd ⟨hc.mpr fun i hi => ha i (by omega), by omega⟩ hcm
/-- where the law's own walk stands before turn k -/
def RW (ps : List Int) (many start level wanted k : Nat) (number : Int) (due : Option Nat) : Prop :=
  ((∀ i, i < k → 0 ≤ num ps many start level i) ∧ number = num ps many start level k ∨ (∃ i, i < k ∧ num ps many start level i < 0) ∧ number = -10 ^ 9) ∧
  match due with
  | none => ∀ i, i < k → (∀ j, j ≤ i → 0 ≤ num ps many start level j) → num ps many start level i < wanted
  | some d => d < k ∧ (∀ j, j ≤ d → 0 ≤ num ps many start level j) ∧ (wanted : Int) ≤ num ps many start level d ∧ ∀ i, i < d → (∀ j, j ≤ i → 0 ≤ num ps many start level j) → num ps many start level i < wanted
theorem ring_want (h1 : 1 ≤ many) (hs : start < many) {wanted most : Nat} {number : Int} {due : Option Nat} (h : RW ps many start level wanted (most + 1) number due) : Due (bkR ps many) (start, [(level : Int)]) (tgt none [(wanted : Int)]) most due := by
  have no : ∀ n x, R (bkR ps many) (start, [(level : Int)]) n x → ((∀ j, j ≤ n → 0 ≤ num ps many start level j) → num ps many start level n < wanted) → tgt none [(wanted : Int)] x = false := fun n x hr hh => by
    obtain ⟨rfl, ha⟩ := R_ring h1 hs hr
    cases ht : tgt none [(wanted : Int)] ((start + n) % many, [num ps many start level n]) with
    | false => rfl
    | true =>
      simp only [tgt, gok, Bool.true_and] at ht
      have := ge1.mp ht
      have := hh ha
      omega
  cases due with
  | none => exact fun n x hn hr => no n x hr (h.2 n (by omega))
  | some d =>
    obtain ⟨_, h2, h3, h4, h5⟩ := h
    refine ⟨by omega, ⟨_, R_go h1 hs d h3, ?_⟩, fun n x hn hr => no n x hr (h5 n hn)⟩
    simp only [tgt, gok, Bool.true_and]
    exact ge1.mpr h4
theorem RW.step {wanted k : Nat} {number : Int} {due : Option Nat} (h : RW ps many start level wanted k number due) : RW ps many start level wanted (k + 1) (if 0 ≤ number then number + dv ps (((start + k) % many : Nat) : Int) else -10 ^ 9) (if due = none ∧ (wanted : Int) ≤ number then some k else due) := by
  obtain ⟨h1, h2⟩ := h
  constructor
  · rcases h1 with ⟨ha, rfl⟩ | ⟨⟨i, hi, hn⟩, rfl⟩
    · by_cases hp : 0 ≤ num ps many start level k
      · rw [if_pos hp]
        refine .inl ⟨fun i hi => ?_, rfl⟩
        by_cases hik : i = k
        · rw [hik]; exact hp
        · exact ha i (by omega)
      · rw [if_neg hp]
        exact .inr ⟨⟨k, by omega, by omega⟩, rfl⟩
    · rw [if_neg (by decide)]
      exact .inr ⟨⟨i, by omega, hn⟩, rfl⟩
  · cases due with
    | some d =>
      simp only [reduceCtorEq, false_and, if_false]
      exact ⟨by omega, h2.2⟩
    | none =>
      by_cases hw : (wanted : Int) ≤ number
      · rw [if_pos ⟨rfl, hw⟩]
        rcases h1 with ⟨ha, rfl⟩ | ⟨⟨i, hi, hn⟩, rfl⟩
        · refine ⟨by omega, fun j hj => ?_, hw, h2⟩
          by_cases hjk : j = k
          · rw [hjk]; omega
          · exact ha j (by omega)
        · exfalso
          have : (-10 ^ 9 : Int) < 0 := by decide
          omega
      · rw [if_neg fun z => hw z.2]
        intro i hi hall
        by_cases hik : i = k
        · subst hik
          rcases h1 with ⟨ha, rfl⟩ | ⟨⟨j, hj, hn⟩, rfl⟩
          · omega
          · have := hall j (by omega)
            omega
        · exact h2 i (by omega) hall
end
end K88

namespace K88
open PySem PySem.Spec PyProof.Rows L2 DL

theorem pow9 {S : Store} : powD (.int 10) (.int 9) S = some (.int (10 ^ 9), S) := by
  simp only [powD]
  rw [if_pos (show inP 10 9 from ⟨by omega, by omega, by decide +kernel⟩)]
  rfl
theorem dv_at {ps : List Int} {k : Nat} (h : k < ps.length) : (ps.map D.int)[k]? = some (.int (dv ps k)) := by
  rw [List.getElem?_map, List.getElem?_eq_getElem h]
  simp [dv, h]
/-- an item of the cell's list -/
theorem ixRef {S : Store} {ps : List Int} {k : Nat} (h : k < ps.length) : ixD (.ref S.length) (.int (k : Nat)) (S ++ [Cell.lst (ps.map D.int)]) = some (.int (dv ps k), S ++ [Cell.lst (ps.map D.int)]) := by
  have e : (ps.map D.int)[k]? = some (.int (dv ps k)) := by
    rw [List.getElem?_map, List.getElem?_eq_getElem h]
    simp [dv, h]
  have hg : (S ++ [Cell.lst (ps.map D.int)])[S.length]? = some (Cell.lst (ps.map D.int)) := by simp
  show (match asQ (S ++ [Cell.lst (ps.map D.int)]) (.ref S.length) with
    | some xs => (L2.atI xs k).map fun d => (d, S ++ [Cell.lst (ps.map D.int)])
    | none => none) = _
  simp only [asQ, asL, hg, atI_nat e, Option.map_some]
theorem dv_le {ps : List Int} (h : ∀ y ∈ ps, y ≤ (7 : Int)) (s : Int) : dv ps s ≤ 7 := by
  unfold dv
  cases e : ps[s.toNat]? with
  | none => simp
  | some y => exact h y (List.mem_of_getElem? e)
theorem cCons_of {a : DE} {r : DA} {ρ : Env'} {S S1 S2 : Store} {x : D} {xs : List D} (h1 : a ρ S = some (x, S1)) (h2 : r ρ S1 = some (xs, S2)) : cCons a r ρ S = some (x :: xs, S2) := by simp only [cCons, h1, h2]
theorem cBin_of {f : D → D → Store → Option (D × Store)} {a b : DE} {ρ : Env'} {S S1 S2 : Store} {x y : D} (h1 : a ρ S = some (x, S1)) (h2 : b ρ S1 = some (y, S2)) : cBin f a b ρ S = f x y S2 := by simp only [cBin, h1, h2]
theorem Ev.aug {i : Nat} {f : D → D → Store → Option (D × Store)} {a : DE} {ρ : Env'} {S S1 S2 : Store} {x y z : D} {Post : Fl → Prop} (h0 : ρ[i]? = some (some x)) (h1 : a ρ S = some (y, S1)) (h2 : f x y S1 = some (z, S2)) (q : Post (.nx (ρ.set i (some z)) S2)) : Ev (sAug i f a) ρ S Post := ⟨_, by simp only [sAug, h0, h1, h2], q⟩
theorem ring_ok {ds : List Int} (hd : 37 ≤ ds.length) {many : Nat} (h1 : 1 ≤ many) (h2 : many ≤ 24) {gr : Bool} {S : Store} : f__law_ring [eDs ds, .int many, .bl gr] S = some (.bl true, S) := by
  have z1 : (1 : Nat) ≤ sizeLine := by rw [sizeLine_eq]; omega
  have z2 : (2 : Nat) ≤ sizeLine := by rw [sizeLine_eq]; omega
  have z3 : (3 : Nat) ≤ sizeLine := by rw [sizeLine_eq]; omega
  have ix : ∀ i : Nat, i < 37 → ∀ S0 : Store, ixD (eDs ds) (.int (i : Nat)) S0 = some (.int (dv ds i), S0) := fun i hi S0 => ixDs (by omega) (by omega)
  have mds : ∀ (a : Int) (n : Nat), 0 < n → ∀ S0 : Store, modD (.int a) (.int (n : Nat)) S0 = some (.int (md a n : Nat), S0) := fun a n hn S0 => mod_md hn
  have i30 : ∀ S0 : Store, ixD (eDs ds) (.int 30) S0 = some (.int (dv ds 30), S0) := ix 30 (by omega)
  have i31 : ∀ S0 : Store, ixD (eDs ds) (.int 31) S0 = some (.int (dv ds 31), S0) := ix 31 (by omega)
  have i32 : ∀ S0 : Store, ixD (eDs ds) (.int 32) S0 = some (.int (dv ds 32), S0) := ix 32 (by omega)
  have i33 : ∀ S0 : Store, ixD (eDs ds) (.int 33) S0 = some (.int (dv ds 33), S0) := ix 33 (by omega)
  have i34 : ∀ S0 : Store, ixD (eDs ds) (.int 34) S0 = some (.int (dv ds 34), S0) := ix 34 (by omega)
  have i35 : ∀ S0 : Store, ixD (eDs ds) (.int 35) S0 = some (.int (dv ds 35), S0) := ix 35 (by omega)
  have i36 : ∀ S0 : Store, ixD (eDs ds) (.int 36) S0 = some (.int (dv ds 36), S0) := ix 36 (by omega)
  have mM : ∀ (a : Int) (S0 : Store), modD (.int a) (.int many) S0 = some (.int (md a many : Nat), S0) := fun a => mds a many (by omega)
  have m5 : ∀ (a : Int) (S0 : Store), modD (.int a) (.int 5) S0 = some (.int (md a 5 : Nat), S0) := fun a => mds a 5 (by omega)
  have m7 : ∀ (a : Int) (S0 : Store), modD (.int a) (.int 7) S0 = some (.int (md a 7 : Nat), S0) := fun a => mds a 7 (by omega)
  have m9 : ∀ (a : Int) (S0 : Store), modD (.int a) (.int 9) S0 = some (.int (md a 9 : Nat), S0) := fun a => mds a 9 (by omega)
  have m12 : ∀ (a : Int) (S0 : Store), modD (.int a) (.int 12) S0 = some (.int (md a 12 : Nat), S0) := fun a => mds a 12 (by omega)
  have m30 : ∀ (a : Int) (S0 : Store), modD (.int a) (.int 30) S0 = some (.int (md a 30 : Nat), S0) := fun a => mds a 30 (by omega)
  have m40 : ∀ (a : Int) (S0 : Store), modD (.int a) (.int 40) S0 = some (.int (md a 40 : Nat), S0) := fun a => mds a 40 (by omega)
  refine call_ev ?_ rfl
  unfold c__law_ring
  have hc := cLC_fmB (S := S) (ρ := [some (eDs ds), some (.int many), some (.bl gr), none, none, none, none, none, none, none, none, none, none, none, none]) (vs := [12]) (ci := cRng1 (cVar 1)) (g := gN 12) (t := tYesD) (e := cBin subD (cBin modD (cApp DL.intD (cCons (cBin ixD (cVar 0) (cVar 12)) cNil)) (cC (.int 7))) (cC (.int 3)))
    (l := List.range many) (fun i => D.int (i : Nat)) (fun _ => true) (fun k => .int (((md (dv ds k) 7 : Nat) : Int) - 3)) (rng1 (n := many) rfl (by omega)) rfl (small (by simp; omega))
    (fun k hk => ⟨_, rfl, rfl, fun _ => by
      have h1 := List.mem_range.mp hk
      simp only [wipeD, cBin, cApp, cCons, cNil, cVar, cC, List.set_cons_zero, List.set_cons_succ, List.getElem?_cons_zero, List.getElem?_cons_succ, ix k (by omega), int1, m7, subD]⟩)
  rw [List.filter_eq_self.mpr fun _ _ => rfl] at hc
  obtain ⟨ps0, hps0, hl0, hle0⟩ : ∃ ps0 : List Int, (List.range many).map (fun (k : Nat) => D.int (((md (dv ds k) 7 : Nat) : Int) - 3)) = ps0.map D.int ∧ ps0.length = many ∧ ∀ y ∈ ps0, y ≤ (3 : Int) :=
    ⟨(List.range many).map fun (k : Nat) => ((md (dv ds k) 7 : Nat) : Int) - 3, by rw [List.map_map]; rfl, by simp, fun y hy => by
      obtain ⟨k, _, rfl⟩ := List.mem_map.mp hy
      have := md_lt (a := dv ds k) (n := 7) (by omega)
      omega⟩
  rw [hps0] at hc
  refine Ev.seq (Ev.setN (d := .ref S.length) (S' := S ++ [Cell.lst (ps0.map D.int)]) hc ?_)
  simp only [List.map_cons, List.map_nil, List.length_cons, List.length_nil, Nat.zero_add, Nat.reduceAdd, Nat.reduceSub, List.replicate, List.cons_append, List.nil_append, List.set_cons_zero, List.set_cons_succ]
  have hi30 := md_lt (a := dv ds 30) (n := many) (by omega)
  have hi31 := md_lt (a := dv ds 31) (n := 5) (by omega)
  obtain ⟨ps, hpl, hpe, hstep⟩ : ∃ ps : List Int, ps.length = many ∧ (∀ y ∈ ps, y ≤ (7 : Int)) ∧
      (sAugIx iaddD (cVar 3) (cBin modD (cApp DL.intD (cCons (cBin ixD (cVar 0) (cC (.int 30))) cNil)) (cVar 1)) (cBin modD (cApp DL.intD (cCons (cBin ixD (cVar 0) (cC (.int 31))) cNil)) (cC (.int 5))))
        [some (eDs ds), some (.int many), some (.bl gr), some (.ref S.length), none, none, none, none, none, none, none, none, none, none, none] (S ++ [Cell.lst (ps0.map D.int)])
        = some (.nx [some (eDs ds), some (.int many), some (.bl gr), some (.ref S.length), none, none, none, none, none, none, none, none, none, none, none] (S ++ [Cell.lst (ps.map D.int)])) := by
    refine ⟨ps0.set (md (dv ds 30) many) (dv ps0 (md (dv ds 30) many : Nat) + ((md (dv ds 31) 5 : Nat) : Int)), by rw [List.length_set, hl0], fun y hy => ?_, ?_⟩
    · rcases List.mem_or_eq_of_mem_set hy with hy | rfl
      · have := hle0 y hy; omega
      · have h3 : ∀ i : Int, dv ps0 i ≤ 3 := fun i => by
          unfold dv
          cases e : ps0[i.toNat]? with
          | none => simp
          | some y => exact hle0 y (List.mem_of_getElem? e)
        have := h3 ((md (dv ds 30) many : Nat) : Int)
        omega
    · have hg : ∀ c : Cell, (S ++ [c])[S.length]? = some c := fun c => by simp
      have e : (ps0.map D.int)[md (dv ds 30) many]? = some (.int (dv ps0 (md (dv ds 30) many : Nat))) := dv_at (by omega)
      have hx : ixN (ps0.map D.int).length ((md (dv ds 30) many : Nat) : Int) = some (md (dv ds 30) many) := by
        unfold ixN
        rw [if_pos (by omega), if_pos (by rw [List.length_map]; omega)]
        rfl
      simp only [sAugIx, cBin, cApp, cCons, cNil, cVar, cC, List.getElem?_cons_zero, List.getElem?_cons_succ, i30, i31, int1, mM, m5, hg, atI_nat e, ipD, setAt, hx, set_end, List.map_set]
  refine Ev.seq ⟨_, hstep, ?_⟩
  have hps7 : ∀ k : Nat, k < many → ∀ S0, S0 = S ++ [Cell.lst (ps.map D.int)] → ixD (.ref S.length) (.int (k : Nat)) S0 = some (.int (dv ps k), S0) := fun k hk S0 e => by rw [e]; exact ixRef (by omega)
  generalize hS1 : S ++ [Cell.lst (ps.map D.int)] = S1 at hps7 ⊢
  have hix1 : ∀ k : Nat, k < many → ixD (.ref S.length) (.int (k : Nat)) S1 = some (.int (dv ps k), S1) := fun k hk => hps7 k hk S1 rfl
  have hcb := cLC_map (S := S1) (ρ := [some (eDs ds), some (.int many), some (.bl gr), some (.ref S.length), none, none, none, none, none, none, none, none, none, none, none]) (vs := [12]) (ci := cRng1 (cVar 1)) (g := gN 12)
    (e := cApp mkTup (cCons (cC (.str "house")) (cCons (cApp mkTup (cCons (cApp mkTup (cCons (cC (.str "on")) (cCons (cApp mkTup (cCons (cBin ixD (cVar 3) (cVar 12)) cNil)) (cCons (cBin modD (cApp DL.intD (cCons (cBin addD (cVar 12) (cC (.int 1))) cNil)) (cVar 1)) cNil)))) cNil)) cNil)))
    (l := List.range many) (fun i => D.int (i : Nat)) (fun k => eS (("house" : Str), [Mv.mk "on" [dv ps (k : Nat)] (md ((k : Int) + 1) many)])) (rng1 (n := many) rfl (by omega)) rfl (small (by simp; omega))
    (fun k hk => ⟨_, rfl, by
      have h1 := List.mem_range.mp hk
      simp only [wipeD, cBin, cApp, cCons, cNil, cVar, cC, List.set_cons_zero, List.set_cons_succ, List.getElem?_cons_zero, List.getElem?_cons_succ, hix1 k h1, int1, mM, addD, mkTup, List.length_cons, List.length_nil, Nat.zero_add, Nat.reduceAdd, z1, z2, z3, if_true]
      rfl⟩)
  refine Ev.seq (Ev.setN (d := eB (bkR ps many)) (S' := S1) (by
    have hcb1 : cCons (cApp tupleD (cCons (cLC [12] false (cRng1 (cVar 1)) (lt1 (gN 12) tYesD (cApp mkTup (cCons (cC (.str "house")) (cCons (cApp mkTup (cCons (cApp mkTup (cCons (cC (.str "on")) (cCons (cApp mkTup (cCons (cBin ixD (cVar 3) (cVar 12)) cNil)) (cCons (cBin modD (cApp DL.intD (cCons (cBin addD (cVar 12) (cC (.int 1))) cNil)) (cVar 1)) cNil)))) cNil)) cNil))))) cNil)) cNil [some (eDs ds), some (.int many), some (.bl gr), some (.ref S.length), none, none, none, none, none, none, none, none, none, none, none] S1 = some ([.tup ((bkR ps many).sts.map eS)], S1) := by
      refine cCons1 ?_
      rw [cApp, cCons1 hcb]
      simp only [tupleD, asQ, asL, bkR, List.map_map]
      rfl
    rw [cApp, cCons]
    simp only [cC, hcb1, mkTup, List.length_cons, List.length_nil, Nat.zero_add, Nat.reduceAdd, z2, if_true]
    rfl) ?_)
  simp only [List.set_cons_zero, List.set_cons_succ]
  obtain ⟨start, hst⟩ : ∃ start, start = md (dv ds 32) many := ⟨_, rfl⟩
  obtain ⟨level, hlv⟩ : ∃ level, level = md (dv ds 33) 12 := ⟨_, rfl⟩
  obtain ⟨goal, hgo⟩ : ∃ goal, goal = md (dv ds 34) many := ⟨_, rfl⟩
  obtain ⟨most, hmo, hmost⟩ : ∃ most : Nat, most ≤ 600 ∧ (cIf (cTr (cVar 2)) (cC (.int 600)) (cBin modD (cApp DL.intD (cCons (cBin ixD (cVar 0) (cC (.int 35))) cNil)) (cC (.int 30)))) [some (eDs ds), some (.int many), some (.bl gr), some (.ref S.length), some (eB (bkR ps many)), some (.int start), some (.int level), none, none, none, none, none, none, none, none] S1 = some (.int most, S1) := by
    cases gr with
    | true => exact ⟨600, by omega, rfl⟩
    | false =>
      have := md_lt (a := dv ds 35) (n := 30) (by omega)
      refine ⟨md (dv ds 35) 30, by omega, ?_⟩
      simp only [cIf, cTr, cVar, truD, Option.map_some, cBin, cApp, cCons, cNil, cC, List.getElem?_cons_zero, List.getElem?_cons_succ, i35, int1, m30]
  have hsl : start < many := by rw [hst]; exact md_lt (by omega)
  have hgl : goal < many := by rw [hgo]; exact md_lt (by omega)
  have hll : level < 12 := by rw [hlv]; exact md_lt (by omega)
  refine Ev.seq (Ev.par (x := .int start) (y := .int level) (S' := S1) (by rw [hst, hlv]; simp only [cCons, cNil, cBin, cApp, cC, cVar, List.getElem?_cons_zero, List.getElem?_cons_succ, i32, i33, int1, mM, m12]) ?_)
  simp only [List.set_cons_zero, List.set_cons_succ]
  refine Ev.seq (Ev.par (x := .int goal) (y := .int most) (S' := S1) (by
    rw [cCons]
    have e : (cBin modD (cApp DL.intD (cCons (cBin ixD (cVar 0) (cC (.int 34))) cNil)) (cVar 1)) [some (eDs ds), some (.int many), some (.bl gr), some (.ref S.length), some (eB (bkR ps many)), some (.int start), some (.int level), none, none, none, none, none, none, none, none] S1 = some (.int goal, S1) := by
      rw [hgo]; simp only [cCons, cNil, cBin, cApp, cC, cVar, List.getElem?_cons_zero, List.getElem?_cons_succ, i34, int1, mM]
    rw [e]
    simp only [cCons1 hmost]) ?_)
  simp only [List.set_cons_zero, List.set_cons_succ]
  obtain ⟨far, hfa⟩ : ∃ far, far = md ((goal : Int) - start) many := ⟨_, rfl⟩
  have hfl : far < many := by rw [hfa]; exact md_lt (by omega)
  refine Ev.seq ⟨.nx [some (eDs ds), some (.int many), some (.bl gr), some (.ref S.length), some (eB (bkR ps many)), some (.int start), some (.int level), some (.int goal), some (.int most), some (.int far), some (.int level), some (.bl true), none, none, none] S1, by rw [hfa]; simp only [sPar3, cCons, cNil, cBin, cApp, cC, cVar, List.getElem?_cons_zero, List.getElem?_cons_succ, subD, int1, mM, List.set_cons_zero, List.set_cons_succ], ?_⟩
  have hread : ∀ (k : Nat) (ρ : Env'), ρ[1]? = some (some (.int many)) → ρ[3]? = some (some (.ref S.length)) → ρ[5]? = some (some (.int start)) → ρ[12]? = some (some (.int k)) → (cBin ixD (cVar 3) (cBin modD (cApp DL.intD (cCons (cBin addD (cVar 5) (cVar 12)) cNil)) (cVar 1))) ρ S1 = some (.int (dv ps ((start + k) % many : Nat)), S1) := by
    intro k ρ r1 r3 r5 r12
    have e : md ((start : Int) + (k : Int)) many = (start + k) % many := by
      have := md_nat (a := start + k) (n := many) (by omega)
      exact_mod_cast this
    simp only [cBin, cApp, cCons, cNil, cVar, r1, r3, r5, r12, addD, int1, mM, e, hix1 _ (Nat.mod_lt _ (by omega : many > 0))]
  have hn0 : 0 ≤ num ps many start level 0 := by show (0 : Int) ≤ level; omega
  have hW := wb_R (ps := ps) h1 h2
  have hbl : (bkR ps many).sts.length = many := by simp [bkR]
  have hdl : dry [(level : Int)] = false := dry1.mpr (by omega)
  obtain ⟨U, u1, u2⟩ := univ hW (s := start) (l := [(level : Int)]) (by rw [hbl]; exact hsl) rfl hdl (base := 11) (g := 7) (fun y hy => by rw [List.mem_singleton.mp hy]; omega) (fun s m hm y hy => by
    by_cases hs : s < many
    · rw [mvs_R hs] at hm
      rw [List.mem_singleton.mp hm] at hy
      rw [List.mem_singleton.mp hy]
      exact dv_le hpe _
    · have : mvs (bkR ps many) s = [] := by
        unfold mvs
        rw [List.getElem?_eq_none (by rw [hbl]; omega)]
      rw [this] at hm
      simp at hm) (most + 1)
  have uz : U.length < sizeLine := by
    rw [u1, hbl, sizeLine_eq]
    show many * (11 + (most + 1) * 7 + 1) ^ 1 < _
    rw [Nat.pow_one]
    have := Nat.mul_le_mul h2 (show 11 + (most + 1) * 7 + 1 ≤ 4300 by omega)
    omega
  have hT10 : (bkR ps many).T ≤ 10 := by show 1 ≤ 10; omega
  refine Ev.seq (Ev.for_ (S' := S1) (fun n : Nat => .int (n : Nat)) (fun rem ρ S' => S' = S1 ∧ ∃ j c x12, rem = List.range' j (far - j) ∧ j ≤ far ∧ ρ = [some (eDs ds), some (.int many), some (.bl gr), some (.ref S.length), some (eB (bkR ps many)), some (.int start), some (.int level), some (.int goal), some (.int most), some (.int far), some (.int (num ps many start level j)), some (.bl c), x12, none, none] ∧ (c = true ↔ ∀ i, i ≤ j → 0 ≤ num ps many start level i))
    (rng1 (n := far) rfl (by omega)) rfl ⟨rfl, 0, true, none, by rw [List.range_eq_range']; simp, Nat.zero_le _, rfl, ⟨fun _ i hi => by rw [show i = 0 by omega]; exact hn0, fun _ => rfl⟩⟩ ?_ ?_)
  · rintro k rem ρ S' ⟨rfl, j, c, x12, hr, hj, rfl, hcc⟩
    obtain ⟨rfl, hlt, rfl⟩ := rng_at hr hj
    refine ⟨_, rfl, ?_⟩
    simp only [gN, List.set_cons_zero, List.set_cons_succ]
    refine Ev.seq (Ev.aug (z := .int (num ps many start level (k + 1))) (S2 := S') rfl (hread k _ rfl rfl rfl rfl) rfl ?_)
    simp only [List.set_cons_zero, List.set_cons_succ]
    refine Ev.setN (d := .bl (c && decide (0 ≤ num ps many start level (k + 1)))) (S' := S') (by
      cases c with
      | false => rfl
      | true => simp only [cAndV, cBin, cVar, cC, List.getElem?_cons_zero, List.getElem?_cons_succ, cmpD, Bool.true_and]) ⟨rfl, k + 1, _, _, rfl, hlt, rfl, ?_⟩
    rw [Bool.and_eq_true, decide_eq_true_eq, hcc]
    constructor
    · rintro ⟨a1, a2⟩ i hi
      by_cases hik : i = k + 1
      · rw [hik]; exact a2
      · exact a1 i (by omega)
    · exact fun a => ⟨fun i hi => a i (by omega), a (k + 1) (Nat.le_refl _)⟩
  rintro ρ S' ⟨rfl, j, c, x12, hr, hj, rfl, hcc⟩
  have hjf : j = far := by
    have := congrArg List.length hr
    simp at this
    omega
  subst hjf
  have C := comes_ok (S := S') hW hT10 (g := goal) (by rw [hbl]; exact hsl) rfl hdl hmo u2 uz (ring_goal (most := most) h1 hsl hgl hfa hcc)
  have hif : (cIf (cAnd (cTr (cVar 11)) (cB (cBin leD (cVar 9) (cVar 8)))) (cVar 9) (cC .non)) [some (eDs ds), some (.int many), some (.bl gr), some (.ref S.length), some (eB (bkR ps many)), some (.int start), some (.int level), some (.int goal), some (.int most), some (.int j), some (.int (num ps many start level j)), some (.bl c), x12, none, none] S' = some (eG (if c = true ∧ j ≤ most then some j else none), S') := by
    cases c with
    | false => rfl
    | true =>
      by_cases hle : j ≤ most
      · have e : decide ((j : Int) ≤ (most : Int)) = true := by simp [hle]
        simp only [cIf, cAnd, cTr, cB, cBin, cVar, cC, List.getElem?_cons_zero, List.getElem?_cons_succ, truD, Option.map_some, cmpD, e, hle, and_self, if_true, eG]
      · have e : decide ((j : Int) ≤ (most : Int)) = false := by simp; omega
        simp only [cIf, cAnd, cTr, cB, cBin, cVar, cC, List.getElem?_cons_zero, List.getElem?_cons_succ, truD, Option.map_some, cmpD, e, hle, and_false, if_false, eG]
  have hlt1 : ∀ (i : Nat) (v : Int) (ρ : Env'), ρ[i]? = some (some (.int v)) → (cApp mkTup (cCons (cVar i) cNil)) ρ S' = some (eL [v], S') := fun i v ρ h => by
    simp only [cApp, cCons, cNil, cVar, h, mkTup, List.length_cons, List.length_nil, Nat.zero_add, z1, if_true]
    rfl
  refine Ev.seq (Ev.ifF (S' := S') (by
    have e6 := hlt1 6 level [some (eDs ds), some (.int many), some (.bl gr), some (.ref S.length), some (eB (bkR ps many)), some (.int start), some (.int level), some (.int goal), some (.int most), some (.int j), some (.int (num ps many start level j)), some (.bl c), x12, none, none] rfl
    rw [cNot, cB, cApp]
    have ea : (cCons (cVar 4) (cCons (cVar 5) (cCons (cApp mkTup (cCons (cVar 6) cNil)) (cCons (cVar 7) (cCons (cVar 8) (cCons (cIf (cAnd (cTr (cVar 11)) (cB (cBin leD (cVar 9) (cVar 8)))) (cVar 9) (cC .non)) cNil)))))) [some (eDs ds), some (.int many), some (.bl gr), some (.ref S.length), some (eB (bkR ps many)), some (.int start), some (.int level), some (.int goal), some (.int most), some (.int j), some (.int (num ps many start level j)), some (.bl c), x12, none, none] S' = some ([eB (bkR ps many), .int start, eL [(level : Int)], .int goal, .int most, eG (if c = true ∧ j ≤ most then some j else none)], S') := by
      have e6c := cCons1 hif
      simp only [cCons] at e6c ⊢
      simp only [cVar, List.getElem?_cons_zero, List.getElem?_cons_succ] at e6 e6c ⊢
      simp only [e6, e6c]
    simp only [ea, nD, List.length_cons, List.length_nil, Nat.zero_add, Nat.reduceAdd, if_true, C, Bool.not_true]) (Ev.next ?_))
  obtain ⟨wanted, hwant⟩ : ∃ wanted : Nat, (cBin addD (cVar 6) (cBin modD (cApp DL.intD (cCons (cBin ixD (cVar 0) (cC (.int 36))) cNil)) (cIf (cTr (cVar 2)) (cC (.int 40)) (cC (.int 9))))) [some (eDs ds), some (.int many), some (.bl gr), some (.ref S.length), some (eB (bkR ps many)), some (.int start), some (.int level), some (.int goal), some (.int most), some (.int j), some (.int (num ps many start level j)), some (.bl c), x12, none, none] S' = some (.int wanted, S') := by
    cases gr with
    | true =>
      refine ⟨level + md (dv ds 36) 40, ?_⟩
      simp only [cBin, cApp, cCons, cNil, cVar, cC, cIf, cTr, truD, Option.map_some, List.getElem?_cons_zero, List.getElem?_cons_succ, i36, int1, m40, addD]
      simp
    | false =>
      refine ⟨level + md (dv ds 36) 9, ?_⟩
      simp only [cBin, cApp, cCons, cNil, cVar, cC, cIf, cTr, truD, Option.map_some, List.getElem?_cons_zero, List.getElem?_cons_succ, i36, int1, m9, addD]
      simp
  refine Ev.seq ⟨.nx [some (eDs ds), some (.int many), some (.bl gr), some (.ref S.length), some (eB (bkR ps many)), some (.int start), some (.int level), some (.int goal), some (.int most), some (.int j), some (.int level), some (.bl c), x12, some (.int wanted), some .non] S', by
    rw [sPar3, cCons, hwant]
    rfl, ?_⟩
  refine Ev.seq (Ev.for_ (S' := S') (fun n : Nat => .int (n : Nat)) (fun rem ρ S2 => S2 = S' ∧ ∃ k number due y12, rem = List.range' k (most + 1 - k) ∧ k ≤ most + 1 ∧ ρ = [some (eDs ds), some (.int many), some (.bl gr), some (.ref S.length), some (eB (bkR ps many)), some (.int start), some (.int level), some (.int goal), some (.int most), some (.int j), some (.int number), some (.bl c), y12, some (.int wanted), some (eG due)] ∧ RW ps many start level wanted k number due)
    (rng1 (n := most + 1) (by simp [sSeq, sSet, sRet, sExpr, sIf, gN, gT, gsCons, gsNil, cVar, cC, cBin, cUn, cNil, cCons, cApp, cB, cTr, cAnd, cOr, cNot, cV, cAndV, cOrV, cNotV, cIf, nD, mkTup, mkLst, mkBox, asQ, asL, negD, addD, subD, cmpD, isND, notND, eqD, neD, eqS, lenD, tupleD, DL.intD, cM, apnd, popM, sPar, sPar3, sNext, sAug, ipD]) (by omega)) rfl ⟨rfl, 0, level, none, x12, by rw [List.range_eq_range']; simp, Nat.zero_le _, rfl, .inl ⟨fun i hi => by omega, rfl⟩, fun i hi => by omega⟩ ?_ ?_)
  · rintro t rem ρ S2 ⟨rfl, k, number, due, y12, hr, hk, rfl, hR⟩
    obtain ⟨rfl, hlt, rfl⟩ := rng_at hr hk
    refine ⟨_, rfl, ?_⟩
    simp only [gN, List.set_cons_zero, List.set_cons_succ]
    have hif2 : ∀ due' : Option Nat, (cIf (cB (cBin geD (cVar 10) (cC (.int 0)))) (cBin addD (cVar 10) (cBin ixD (cVar 3) (cBin modD (cApp DL.intD (cCons (cBin addD (cVar 5) (cVar 12)) cNil)) (cVar 1)))) (cUn negD (cBin powD (cC (.int 10)) (cC (.int 9))))) [some (eDs ds), some (.int many), some (.bl gr), some (.ref S.length), some (eB (bkR ps many)), some (.int start), some (.int level), some (.int goal), some (.int most), some (.int j), some (.int number), some (.bl c), some (.int t), some (.int wanted), some (eG due')] S2 = some (.int (if 0 ≤ number then number + dv ps (((start + t) % many : Nat) : Int) else -10 ^ 9), S2) := by
      intro due'
      have hrd := hread t [some (eDs ds), some (.int many), some (.bl gr), some (.ref S.length), some (eB (bkR ps many)), some (.int start), some (.int level), some (.int goal), some (.int most), some (.int j), some (.int number), some (.bl c), some (.int t), some (.int wanted), some (eG due')] rfl rfl rfl rfl
      by_cases hp : 0 ≤ number
      · rw [if_pos hp]
        have e : decide (0 ≤ number) = true := by simp [hp]
        rw [cIf]
        have et : (cB (cBin geD (cVar 10) (cC (.int 0)))) [some (eDs ds), some (.int many), some (.bl gr), some (.ref S.length), some (eB (bkR ps many)), some (.int start), some (.int level), some (.int goal), some (.int most), some (.int j), some (.int number), some (.bl c), some (.int t), some (.int wanted), some (eG due')] S2 = some (true, S2) := by
          simp only [cB, cBin, cVar, cC, List.getElem?_cons_zero, List.getElem?_cons_succ, cmpD, e]
        rw [et]
        show (cBin addD (cVar 10) (cBin ixD (cVar 3) (cBin modD (cApp DL.intD (cCons (cBin addD (cVar 5) (cVar 12)) cNil)) (cVar 1)))) _ _ = _
        exact (cBin_of (a := cVar 10) (S1 := S2) rfl hrd).trans rfl
      · rw [if_neg hp]
        have e : decide (0 ≤ number) = false := by simp; omega
        simp only [cIf, cB, cBin, cVar, cC, cUn, List.getElem?_cons_zero, List.getElem?_cons_succ, cmpD, e, pow9, negD]
    have hstep2 := hR.step
    have hcond : (cAnd (cB (cBin isND (cVar 14) (cC .non))) (cB (cBin geD (cVar 10) (cVar 13)))) [some (eDs ds), some (.int many), some (.bl gr), some (.ref S.length), some (eB (bkR ps many)), some (.int start), some (.int level), some (.int goal), some (.int most), some (.int j), some (.int number), some (.bl c), some (.int t), some (.int wanted), some (eG due)] S2 = some (decide (due = none ∧ (wanted : Int) ≤ number), S2) := by
      cases due with
      | some d =>
        simp [cAnd, cB, cBin, cVar, cC, isND, eG]
      | none =>
        simp [cAnd, cB, cBin, cVar, cC, isND, eG, cmpD]
    refine Ev.seq (Ev.ite hcond (fun ht => ?_) fun hf => Ev.next ?_)
    · have ht' := of_decide_eq_true ht
      rw [if_pos ht'] at hstep2
      refine Ev.setN (d := .int t) (S' := S2) rfl ?_
      simp only [List.set_cons_zero, List.set_cons_succ]
      exact Ev.setN (hif2 (some t)) ⟨rfl, t + 1, _, some t, _, rfl, hlt, rfl, hstep2⟩
    · have hf' := of_decide_eq_false hf
      rw [if_neg hf'] at hstep2
      exact Ev.setN (hif2 due) ⟨rfl, t + 1, _, due, _, rfl, hlt, rfl, hstep2⟩
  · rintro ρ S2 ⟨rfl, k, number, due, y12, hr, hk, rfl, hR⟩
    have hkm : k = most + 1 := by
      have := congrArg List.length hr
      simp at this
      omega
    subst hkm
    have Wn := wants_ok (S := S2) hW hT10 (l := [(level : Int)]) (wt := [(wanted : Int)]) (by rw [hbl]; exact hsl) rfl rfl hdl hmo u2 uz (ring_want h1 hsl hR)
    have e6 := hlt1 6 level [some (eDs ds), some (.int many), some (.bl gr), some (.ref S.length), some (eB (bkR ps many)), some (.int start), some (.int level), some (.int goal), some (.int most), some (.int j), some (.int number), some (.bl c), y12, some (.int wanted), some (eG due)] rfl
    have e13 := hlt1 13 wanted [some (eDs ds), some (.int many), some (.bl gr), some (.ref S.length), some (eB (bkR ps many)), some (.int start), some (.int level), some (.int goal), some (.int most), some (.int j), some (.int number), some (.bl c), y12, some (.int wanted), some (eG due)] rfl
    refine Ev.ret (d := .bl true) (S' := S2) ?_ ⟨[Cell.lst (ps.map D.int)], by rw [hS1]⟩
    have args := cCons_of (a := cVar 4) (S1 := S2) rfl (cCons_of (a := cVar 5) (S1 := S2) rfl (cCons_of e6 (cCons_of e13 (cCons_of (a := cVar 8) (S1 := S2) rfl (cCons_of (a := cVar 14) (r := cNil) (S1 := S2) rfl rfl)))))
    rw [cApp, args]
    exact Wn
end K88

namespace K88
open PySem PySem.Spec PyProof.Rows L2 DL

theorem plain (ns : List Int) (hn : ns.length ≤ 63) : ∃ S', f_law [.scr (ns.map D.int)] [] = some (.bl true, S') := by
  obtain ⟨ds, hl, hd⟩ := draws_ok hn (many := 420) (by omega) (S := [])
  have hd' : f__law_draws [.scr (ns.map D.int), .int 420] [] = some (eDs ds, []) := hd
  refine ⟨[], call_ev ?_ rfl⟩
  unfold c_law
  refine Ev.seq (Ev.setN (d := eDs ds) (S' := []) (by simp only [cApp, cCons, cNil, cVar, cC, nD, List.map_cons, List.map_nil, List.length_cons, List.length_nil, List.replicate, Nat.reduceSub, List.cons_append, List.nil_append, Nat.zero_add, Nat.reduceAdd, if_true, List.getElem?_cons_zero, List.getElem?_cons_succ, hd']) ?_)
  simp only [List.map_cons, List.map_nil, List.length_cons, List.length_nil, Nat.zero_add, Nat.reduceAdd, Nat.reduceSub, List.replicate, List.cons_append, List.nil_append, List.set_cons_zero, List.set_cons_succ]
  have m13 : modD (.int (dv ds 0)) (.int 13) [] = some (.int (md (dv ds 0) 13 : Nat), []) := mod_md (n := 13) (by omega)
  have m8 : modD (.int (dv ds 1)) (.int 8) [] = some (.int (md (dv ds 1) 8 : Nat), []) := mod_md (n := 8) (by omega)
  have i0 := ixDs (ds := ds) (i := 0) (by omega) (by omega) (S := [])
  have i1 := ixDs (ds := ds) (i := 1) (by omega) (by omega) (S := [])
  refine Ev.seq (Ev.setN (d := .bl (decide (((md (dv ds 0) 13 : Nat) : Int) = 9))) (S' := []) (by simp only [cBin, cApp, cCons, cNil, cVar, cC, List.getElem?_cons_zero, List.getElem?_cons_succ, i0, int1, m13, eqD, eqS, Option.map_some]) ?_)
  simp only [List.set_cons_zero, List.set_cons_succ]
  have sl : ∀ (k : Nat) (w : Bool), cSl false (cVar 1) (oSome (cC (.int k))) oNo [some (.scr (ns.map D.int)), some (eDs ds), some (.bl w)] [] = some (eDs (ds.drop k), []) := fun k w => sl_from rfl
  have s10 : ∀ w : Bool, cSl false (cVar 1) (oSome (cC (.int 10))) oNo [some (.scr (ns.map D.int)), some (eDs ds), some (.bl w)] [] = some (eDs (ds.drop 10), []) := sl 10
  have s120 : ∀ w : Bool, cSl false (cVar 1) (oSome (cC (.int 120))) oNo [some (.scr (ns.map D.int)), some (eDs ds), some (.bl w)] [] = some (eDs (ds.drop 120), []) := sl 120
  have s230 : ∀ w : Bool, cSl false (cVar 1) (oSome (cC (.int 230))) oNo [some (.scr (ns.map D.int)), some (eDs ds), some (.bl w)] [] = some (eDs (ds.drop 230), []) := sl 230
  have s250 : ∀ w : Bool, cSl false (cVar 1) (oSome (cC (.int 250))) oNo [some (.scr (ns.map D.int)), some (eDs ds), some (.bl w)] [] = some (eDs (ds.drop 250), []) := sl 250
  have s300 : ∀ w : Bool, cSl false (cVar 1) (oSome (cC (.int 300))) oNo [some (.scr (ns.map D.int)), some (eDs ds), some (.bl w)] [] = some (eDs (ds.drop 300), []) := sl 300
  have s320 : ∀ w : Bool, cSl false (cVar 1) (oSome (cC (.int 320))) oNo [some (.scr (ns.map D.int)), some (eDs ds), some (.bl w)] [] = some (eDs (ds.drop 320), []) := sl 320
  have d1 := drawn_ok (ds := ds.drop 10) (by simp; omega) (S := [])
  have d2 := drawn_ok (ds := ds.drop 120) (by simp; omega) (S := [])
  have p1 := pumps_ok (ds := ds.drop 230) (by simp; omega) (gr := false) (S := [])
  have p2 := pumps_ok (ds := ds.drop 300) (by simp; omega) (gr := true) (S := [])
  have hm := md_lt (a := dv ds 1) (n := 8) (by omega)
  have r1 := ring_ok (ds := ds.drop 250) (by simp; omega) (many := 1 + md (dv ds 1) 8) (by omega) (by omega) (gr := false) (S := [])
  have r2 := ring_ok (ds := ds.drop 320) (by simp; omega) (many := 24) (by omega) (by omega) (gr := true) (S := [])
  have r2' : f__law_ring [eDs (ds.drop 320), .int 24, .bl true] [] = some (.bl true, []) := r2
  have ea : addD (.int 1) (.int ((md (dv ds 1) 8 : Nat) : Int)) [] = some (.int ((1 + md (dv ds 1) 8 : Nat) : Int), []) := by simp [addD]
  generalize decide (((md (dv ds 0) 13 : Nat) : Int) = 9) = w
  have c1 := fun k (h : cSl false (cVar 1) (oSome (cC (.int k))) oNo [some (.scr (ns.map D.int)), some (eDs ds), some (.bl w)] [] = some (eDs (ds.drop k.toNat), [])) => cCons1 h
  have b1 : (cB (cApp (nD 1 f__law_drawn) (cCons (cSl false (cVar 1) (oSome (cC (.int 10))) oNo) cNil))) [some (.scr (ns.map D.int)), some (eDs ds), some (.bl w)] [] = some (true, []) := by
    rw [cB, cApp, cCons1 (s10 w)]
    simp only [nD, List.length_cons, List.length_nil, Nat.zero_add, if_true, d1]
  have b2 : (cB (cApp (nD 1 f__law_drawn) (cCons (cSl false (cVar 1) (oSome (cC (.int 120))) oNo) cNil))) [some (.scr (ns.map D.int)), some (eDs ds), some (.bl w)] [] = some (true, []) := by
    rw [cB, cApp, cCons1 (s120 w)]
    simp only [nD, List.length_cons, List.length_nil, Nat.zero_add, if_true, d2]
  have b3 : (cB (cApp (nD 2 f__law_pumps) (cCons (cSl false (cVar 1) (oSome (cC (.int 230))) oNo) (cCons (cC (.bl false)) cNil)))) [some (.scr (ns.map D.int)), some (eDs ds), some (.bl w)] [] = some (true, []) := by
    rw [cB, cApp, cCons_of (s230 w) (cCons1 (S1 := []) rfl)]
    simp only [nD, List.length_cons, List.length_nil, Nat.zero_add, Nat.reduceAdd, if_true, p1]
  refine Ev.seq (Ev.ifF (S' := []) (by simp only [cOr, cNot, b1, b2, b3, Bool.not_true]) (Ev.next ?_))
  have hmany : (cBin addD (cC (.int 1)) (cBin modD (cApp DL.intD (cCons (cBin ixD (cVar 1) (cC (.int 1))) cNil)) (cC (.int 8)))) [some (.scr (ns.map D.int)), some (eDs ds), some (.bl w)] [] = some (.int ((1 + md (dv ds 1) 8 : Nat) : Int), []) := by
    simp only [cBin, cApp, cCons, cNil, cVar, cC, List.getElem?_cons_zero, List.getElem?_cons_succ, i1, int1, m8, ea]
  have b4 : (cB (cApp (nD 3 f__law_ring) (cCons (cSl false (cVar 1) (oSome (cC (.int 250))) oNo) (cCons (cBin addD (cC (.int 1)) (cBin modD (cApp DL.intD (cCons (cBin ixD (cVar 1) (cC (.int 1))) cNil)) (cC (.int 8)))) (cCons (cC (.bl false)) cNil))))) [some (.scr (ns.map D.int)), some (eDs ds), some (.bl w)] [] = some (true, []) := by
    rw [cB, cApp, cCons_of (s250 w) (cCons_of hmany (cCons1 (S1 := []) rfl))]
    simp only [nD, List.length_cons, List.length_nil, Nat.zero_add, Nat.reduceAdd, if_true, r1]
  refine Ev.seq (Ev.ifF (S' := []) (by simp only [cNot, b4, Bool.not_true]) (Ev.next ?_))
  have b5 : (cApp (nD 2 f__law_pumps) (cCons (cSl false (cVar 1) (oSome (cC (.int 300))) oNo) (cCons (cC (.bl true)) cNil))) [some (.scr (ns.map D.int)), some (eDs ds), some (.bl w)] [] = some (.bl true, []) := by
    rw [cApp, cCons_of (s300 w) (cCons1 (S1 := []) rfl)]
    simp only [nD, List.length_cons, List.length_nil, Nat.zero_add, Nat.reduceAdd, if_true, p2]
  have b6 : (cApp (nD 3 f__law_ring) (cCons (cSl false (cVar 1) (oSome (cC (.int 320))) oNo) (cCons (cC (.int 24)) (cCons (cC (.bl true)) cNil)))) [some (.scr (ns.map D.int)), some (eDs ds), some (.bl w)] [] = some (.bl true, []) := by
    rw [cApp, cCons_of (s320 w) (cCons_of (S1 := []) rfl (cCons1 (S1 := []) rfl))]
    simp only [nD, List.length_cons, List.length_nil, Nat.zero_add, Nat.reduceAdd, if_true, r2']
  refine Ev.ret (d := .bl true) (S' := []) ?_ ⟨[], rfl⟩
  cases w with
  | false => rfl
  | true =>
    simp only [cOrV, cNotV, cAndV, b5, b6, cVar, List.getElem?_cons_zero, List.getElem?_cons_succ, Bool.not_true]
end K88

namespace K88
open PySem PySem.Spec PyProof.Rows L2 DL
def top (i : Nat) : Stmt := PySem.Challenge.pw_nonerunsdry_k88_whole_reaching.main.body.getD i (.Pass ⟨0, 0, 0, 0⟩)
structure Tx (K : PySem.W.Frag) (mg : Str → Option Value) : Prop where
  b_len : mg "len" = none
  b_range : mg "range" = none
  b_tuple : mg "tuple" = none
  b_zip : mg "zip" = none
  b_all : mg "all" = none
  b_any : mg "any" = none
  b_max : mg "max" = none
  b_min : mg "min" = none
  b_isinstance : mg "isinstance" = none
  b_int : mg "int" = none
  b_abs : mg "abs" = none
  b_str : mg "str" = none
  b_enumerate : mg "enumerate" = none
  b_bool : mg "bool" = none
  g_PLAY_MOST : ∃ u, mg "PLAY_MOST" = some u ∧ RelV (.int 600) u
  d_noughts : DefAt K mg "noughts" (top 7)
  d_poured : DefAt K mg "poured" (top 4)
  d_moves_of : DefAt K mg "moves_of" (top 1)
  d_level_course : DefAt K mg "level_course" (top 15)
  d_lesser_of : DefAt K mg "lesser_of" (top 5)
  d_needed_levels : DefAt K mg "needed_levels" (top 17)
  d__law_whole : DefAt K mg "_law_whole" (top 30)
  d__law_same : DefAt K mg "_law_same" (top 31)
  d_pour_sum : DefAt K mg "pour_sum" (top 16)
  d_is_integer : DefAt K mg "is_integer" (top 24)
  d_integer_within : DefAt K mg "integer_within" (top 25)
  d_is_dry : DefAt K mg "is_dry" (top 6)
  d_check_play : DefAt K mg "check_play" (top 27)
  d__law_course : DefAt K mg "_law_course" (top 34)
  d__law_told : DefAt K mg "_law_told" (top 36)
  d__law_least : DefAt K mg "_law_least" (top 32)
  d__law_right : DefAt K mg "_law_right" (top 35)
  d_layer_behind : DefAt K mg "layer_behind" (top 10)
  d_at_least : DefAt K mg "at_least" (top 3)
  d_led_back : DefAt K mg "led_back" (top 9)
  d_searched : DefAt K mg "searched" (top 11)
  d_can_come : DefAt K mg "can_come" (top 12)
  d__law_comes : DefAt K mg "_law_comes" (top 37)
  d_fewest_moves : DefAt K mg "fewest_moves" (top 13)
  d__law_wants : DefAt K mg "_law_wants" (top 38)
  d__law_laps : DefAt K mg "_law_laps" (top 41)
  d__law_pumps : DefAt K mg "_law_pumps" (top 42)
  d__law_ring : DefAt K mg "_law_ring" (top 43)
  d__law_fewest : DefAt K mg "_law_fewest" (top 33)
  d__law_book : DefAt K mg "_law_book" (top 39)
  d__law_drawn : DefAt K mg "_law_drawn" (top 40)
  d__law_draws : DefAt K mg "_law_draws" (top 29)
  d_law : DefAt K mg "law" (top 44)
variable {P : Program} {w : World} {K : PySem.W.Frag} {mg : Str → Option Value} {base : Heap}
abbrev N_noughts : List Str := ["tanks", "_"]
theorem sc_noughts : FnScope N_noughts ["tanks"] (defScope (top 7)) := ⟨rfl, rfl, rfl, by decide +kernel, rfl, by decide +kernel, by decide +kernel⟩
theorem ok_noughts (T : Tx K mg)  : DefOk P w K mg base "noughts" 1 ["tanks"] f_noughts := by
  obtain ⟨f, fd, F, hm⟩ := T.d_noughts
  refine ⟨f, fd, fnD (N := N_noughts) (c := c_noughts) (k := 0) F sc_noughts (fun cdv A outer s H E hr => ?_), hm, F.kp, F.bindsN fun _ _ _ _ _ _ us hl => match us, hl with | [_], _ => rfl, fdAt_of F⟩
  exact (pdss_one (pds_ret (pd_tuple T.b_tuple (pda_cons (pd_lc false (own := [("_", 1)]) (ws := [1]) (g := (gN 1)) (t := tYesD) (e := (cC (.int 0))) rfl sc_noughts.nd (pdi_range1 T.b_range (pd_var 0 (pv 0))) (blkOk_by (own := [("_", 1)]) (N := N_noughts) (sc := defScope (top 7)) (by decide +kernel)) (by decide) (fun _ _ _ _ _ => (pdg_name (i := 1) (pg_name (i := 1) sc_noughts.nd rfl (by first | exact .inl rfl | exact .inr rfl)))) (fun _ _ _ _ _ => pdts_nil) (fun _ _ _ _ _ => pd_int)) pda_nil))))
abbrev N_poured : List Str := ["levels", "pours", "level", "pour"]
theorem sc_poured : FnScope N_poured ["levels", "pours"] (defScope (top 4)) := ⟨rfl, rfl, rfl, by decide +kernel, rfl, by decide +kernel, by decide +kernel⟩
theorem ok_poured (T : Tx K mg)  : DefOk P w K mg base "poured" 1 ["levels", "pours"] f_poured := by
  obtain ⟨f, fd, F, hm⟩ := T.d_poured
  refine ⟨f, fd, fnD (N := N_poured) (c := c_poured) (k := 0) F sc_poured (fun cdv A outer s H E hr => ?_), hm, F.kp, F.bindsN fun _ _ _ _ _ _ us hl => match us, hl with | [_, _], _ => rfl, fdAt_of F⟩
  exact (pdss_one (pds_ret (pd_tuple T.b_tuple (pda_cons (pd_lc false (own := [("level", 2), ("pour", 3)]) (ws := [2, 3]) (g := (gT 2 (gsCons (gN 2) (gsCons (gN 3) gsNil)))) (t := tYesD) (e := (cBin addD (cVar 2) (cVar 3))) rfl sc_poured.nd (pdi_zip T.b_zip (pd_var 0 (pv 0)) (pd_var 1 (pv 1))) (blkOk_by (own := [("level", 2), ("pour", 3)]) (N := N_poured) (sc := defScope (top 4)) (by decide +kernel)) (by decide) (fun _ _ _ _ _ => (pdg_tup rfl (pdgs_cons (pdg_name (i := 2) (pg_name (i := 2) sc_poured.nd rfl (by first | exact .inl rfl | exact .inr rfl))) (pdgs_cons (pdg_name (i := 3) (pg_name (i := 3) sc_poured.nd rfl (by first | exact .inl rfl | exact .inr rfl))) pdgs_nil)))) (fun _ _ _ _ _ => pdts_nil) (fun _ _ _ _ _ => (pd_add (pd_var 2 (pv 2)) (pd_var 3 (pv 3))))) pda_nil))))
abbrev N_moves_of : List Str := ["book", "standing"]
theorem sc_moves_of : FnScope N_moves_of ["book", "standing"] (defScope (top 1)) := ⟨rfl, rfl, rfl, by decide +kernel, rfl, by decide +kernel, by decide +kernel⟩
theorem ok_moves_of (T : Tx K mg)  : DefOk P w K mg base "moves_of" 1 ["book", "standing"] f_moves_of := by
  obtain ⟨f, fd, F, hm⟩ := T.d_moves_of
  refine ⟨f, fd, fnD (N := N_moves_of) (c := c_moves_of) (k := 0) F sc_moves_of (fun cdv A outer s H E hr => ?_), hm, F.kp, F.bindsN fun _ _ _ _ _ _ us hl => match us, hl with | [_, _], _ => rfl, fdAt_of F⟩
  exact (pdss_one (pds_ret (pd_ix (pd_ix (pd_ix (pd_var 0 (pv 0)) pd_int) (pd_var 1 (pv 1))) pd_int)))
abbrev N_level_course : List Str := ["book", "start", "levels", "play", "standing", "found", "number", "word", "pours", "goal"]
theorem sc_level_course : FnScope N_level_course ["book", "start", "levels", "play"] (defScope (top 15)) := ⟨rfl, rfl, rfl, by decide +kernel, rfl, by decide +kernel, by decide +kernel⟩
theorem ok_level_course (T : Tx K mg) (D_poured : DefOk P w K mg base "poured" 1 ["levels", "pours"] f_poured) (D_moves_of : DefOk P w K mg base "moves_of" 1 ["book", "standing"] f_moves_of) : DefOk P w K mg base "level_course" 2 ["book", "start", "levels", "play"] f_level_course := by
  obtain ⟨f, fd, F, hm⟩ := T.d_level_course
  refine ⟨f, fd, fnD (N := N_level_course) (c := c_level_course) (k := 1) F sc_level_course (fun cdv A outer s H E hr => ?_), hm, F.kp, F.bindsN fun _ _ _ _ _ _ us hl => match us, hl with | [_, _, _, _], _ => rfl, fdAt_of F⟩
  exact (pdss_cons (pds_set (ps_set (i := 4) sc_level_course.nd rfl (by first | exact .inl rfl | exact .inr rfl) (pd_var 1 (pv 1))))
  (pdss_cons (pds_set (ps_set (i := 5) sc_level_course.nd rfl (by first | exact .inl rfl | exact .inr rfl) (pd_lstB (pda_cons (pd_var 2 (pv 2)) pda_nil))))
  (pdss_cons (pds_for PassesOwn.never rfl (pdi_seq (pd_var 3 (pv 3))) (pdg_name (i := 6) (pg_name (i := 6) sc_level_course.nd rfl (by first | exact .inl rfl | exact .inr rfl))) (pdss_cons (pds_asg (pd_ix (pd_callD hr (D_moves_of.mono (by decide)) (pda_cons (pd_var 0 (pv 0)) (pda_cons (pd_var 4 (pv 4)) pda_nil))) (pd_var 6 (pv 6))) (pdg_tup rfl (pdgs_cons (pdg_name (i := 7) (pg_name (i := 7) sc_level_course.nd rfl (by first | exact .inl rfl | exact .inr rfl))) (pdgs_cons (pdg_name (i := 8) (pg_name (i := 8) sc_level_course.nd rfl (by first | exact .inl rfl | exact .inr rfl))) (pdgs_cons (pdg_name (i := 9) (pg_name (i := 9) sc_level_course.nd rfl (by first | exact .inl rfl | exact .inr rfl))) pdgs_nil)))))
  (pdss_cons (pds_expr (pd_append (pd_var 5 (pv 5)) (pda_cons (pd_callD hr (D_poured.mono (by decide)) (pda_cons (pd_ix (pd_var 5 (pv 5)) (pd_neg pd_int)) (pda_cons (pd_var 8 (pv 8)) pda_nil))) pda_nil)))
  (pdss_one (pds_set (ps_set (i := 4) sc_level_course.nd rfl (by first | exact .inl rfl | exact .inr rfl) (pd_var 9 (pv 9))))))))
  (pdss_one (pds_ret (pd_tuple T.b_tuple (pda_cons (pd_var 5 (pv 5)) pda_nil)))))))
abbrev N_lesser_of : List Str := ["one", "other", "left", "right"]
theorem sc_lesser_of : FnScope N_lesser_of ["one", "other"] (defScope (top 5)) := ⟨rfl, rfl, rfl, by decide +kernel, rfl, by decide +kernel, by decide +kernel⟩
theorem ok_lesser_of (T : Tx K mg)  : DefOk P w K mg base "lesser_of" 1 ["one", "other"] f_lesser_of := by
  obtain ⟨f, fd, F, hm⟩ := T.d_lesser_of
  refine ⟨f, fd, fnD (N := N_lesser_of) (c := c_lesser_of) (k := 0) F sc_lesser_of (fun cdv A outer s H E hr => ?_), hm, F.kp, F.bindsN fun _ _ _ _ _ _ us hl => match us, hl with | [_, _], _ => rfl, fdAt_of F⟩
  exact (pdss_one (pds_ret (pd_tuple T.b_tuple (pda_cons (pd_lc false (own := [("left", 2), ("right", 3)]) (ws := [2, 3]) (g := (gT 2 (gsCons (gN 2) (gsCons (gN 3) gsNil)))) (t := tYesD) (e := (cApp min2D (cCons (cVar 2) (cCons (cVar 3) cNil)))) rfl sc_lesser_of.nd (pdi_zip T.b_zip (pd_var 0 (pv 0)) (pd_var 1 (pv 1))) (blkOk_by (own := [("left", 2), ("right", 3)]) (N := N_lesser_of) (sc := defScope (top 5)) (by decide +kernel)) (by decide) (fun _ _ _ _ _ => (pdg_tup rfl (pdgs_cons (pdg_name (i := 2) (pg_name (i := 2) sc_lesser_of.nd rfl (by first | exact .inl rfl | exact .inr rfl))) (pdgs_cons (pdg_name (i := 3) (pg_name (i := 3) sc_lesser_of.nd rfl (by first | exact .inl rfl | exact .inr rfl))) pdgs_nil)))) (fun _ _ _ _ _ => pdts_nil) (fun _ _ _ _ _ => (pd_min rfl hr.units T.b_min (pda_cons (pd_var 2 (pv 2)) (pda_cons (pd_var 3 (pv 3)) pda_nil))))) pda_nil))))
abbrev N_needed_levels : List Str := ["book", "start", "play", "lowest", "levels", "level"]
theorem sc_needed_levels : FnScope N_needed_levels ["book", "start", "play"] (defScope (top 17)) := ⟨rfl, rfl, rfl, by decide +kernel, rfl, by decide +kernel, by decide +kernel⟩
theorem ok_needed_levels (T : Tx K mg) (D_noughts : DefOk P w K mg base "noughts" 1 ["tanks"] f_noughts) (D_level_course : DefOk P w K mg base "level_course" 2 ["book", "start", "levels", "play"] f_level_course) (D_lesser_of : DefOk P w K mg base "lesser_of" 1 ["one", "other"] f_lesser_of) : DefOk P w K mg base "needed_levels" 3 ["book", "start", "play"] f_needed_levels := by
  obtain ⟨f, fd, F, hm⟩ := T.d_needed_levels
  refine ⟨f, fd, fnD (N := N_needed_levels) (c := c_needed_levels) (k := 2) F sc_needed_levels (fun cdv A outer s H E hr => ?_), hm, F.kp, F.bindsN fun _ _ _ _ _ _ us hl => match us, hl with | [_, _, _], _ => rfl, fdAt_of F⟩
  exact (pdss_cons (pds_set (ps_set (i := 3) sc_needed_levels.nd rfl (by first | exact .inl rfl | exact .inr rfl) (pd_callD hr (D_noughts.mono (by decide)) (pda_cons (pd_ix (pd_var 0 (pv 0)) pd_int) pda_nil))))
  (pdss_cons (pds_for PassesOwn.never rfl (pdi_seq (pd_callD hr (D_level_course.mono (by decide)) (pda_cons (pd_var 0 (pv 0)) (pda_cons (pd_var 1 (pv 1)) (pda_cons (pd_callD hr (D_noughts.mono (by decide)) (pda_cons (pd_ix (pd_var 0 (pv 0)) pd_int) pda_nil)) (pda_cons (pd_var 2 (pv 2)) pda_nil)))))) (pdg_name (i := 4) (pg_name (i := 4) sc_needed_levels.nd rfl (by first | exact .inl rfl | exact .inr rfl))) (pdss_one (pds_set (ps_set (i := 3) sc_needed_levels.nd rfl (by first | exact .inl rfl | exact .inr rfl) (pd_callD hr (D_lesser_of.mono (by decide)) (pda_cons (pd_var 3 (pv 3)) (pda_cons (pd_var 4 (pv 4)) pda_nil)))))))
  (pdss_one (pds_ret (pd_tuple T.b_tuple (pda_cons (pd_lc false (own := [("level", 5)]) (ws := [5]) (g := (gN 5)) (t := tYesD) (e := (cUn negD (cVar 5))) rfl sc_needed_levels.nd (pdi_seq (pd_var 3 (pv 3))) (blkOk_by (own := [("level", 5)]) (N := N_needed_levels) (sc := defScope (top 17)) (by decide +kernel)) (by decide) (fun _ _ _ _ _ => (pdg_name (i := 5) (pg_name (i := 5) sc_needed_levels.nd rfl (by first | exact .inl rfl | exact .inr rfl)))) (fun _ _ _ _ _ => pdts_nil) (fun _ _ _ _ _ => (pd_neg (pd_var 5 (pv 5))))) pda_nil))))))
abbrev N__law_whole : List Str := ["thing"]
theorem sc__law_whole : FnScope N__law_whole ["thing"] (defScope (top 30)) := ⟨rfl, rfl, rfl, by decide +kernel, rfl, by decide +kernel, by decide +kernel⟩
theorem ok__law_whole (T : Tx K mg)  : DefOk P w K mg base "_law_whole" 1 ["thing"] f__law_whole := by
  obtain ⟨f, fd, F, hm⟩ := T.d__law_whole
  refine ⟨f, fd, fnD (N := N__law_whole) (c := c__law_whole) (k := 0) F sc__law_whole (fun cdv A outer s H E hr => ?_), hm, F.kp, F.bindsN fun _ _ _ _ _ _ us hl => match us, hl with | [_], _ => rfl, fdAt_of F⟩
  exact (pdss_one (pds_ret (pd_and (pd_isi (T := "int") (t := "int") T.b_isinstance (pd_var 0 (pv 0)) T.b_int (by decide +kernel)) (pd_one (pd_not (pd_isi (T := "bool") (t := "bool") T.b_isinstance (pd_var 0 (pv 0)) T.b_bool (by decide +kernel)))))))
abbrev N__law_same : List Str := ["told", "due", "rest", "lap", "one", "other", "k"]
theorem sc__law_same : FnScope N__law_same ["told", "due"] (defScope (top 31)) := ⟨rfl, rfl, rfl, by decide +kernel, rfl, by decide +kernel, by decide +kernel⟩
theorem ok__law_same (T : Tx K mg) (D__law_whole : DefOk P w K mg base "_law_whole" 1 ["thing"] f__law_whole) : DefOk P w K mg base "_law_same" 2 ["told", "due"] f__law_same := by
  obtain ⟨f, fd, F, hm⟩ := T.d__law_same
  refine ⟨f, fd, fnD (N := N__law_same) (c := c__law_same) (k := 1) F sc__law_same (fun cdv A outer s H E hr => ?_), hm, F.kp, F.bindsN fun _ _ _ _ _ _ us hl => match us, hl with | [_, _], _ => rfl, fdAt_of F⟩
  exact (pdss_cons (pds_set (ps_set (i := 2) sc__law_same.nd rfl (by first | exact .inl rfl | exact .inr rfl) (pd_lstB (pda_cons (pd_tup (pda_cons (pd_var 0 (pv 0)) (pda_cons (pd_var 1 (pv 1)) pda_nil))) pda_nil))))
  (pdss_cons (pds_for PassesOwn.never rfl (pdi_range1 T.b_range pd_int) (pdg_name (i := 3) (pg_name (i := 3) sc__law_same.nd rfl (by first | exact .inl rfl | exact .inr rfl))) (pdss_cons (pds_if (pdt_eq (pd_len T.b_len (pda_cons (pd_var 2 (pv 2)) pda_nil)) pd_int) (pdss_one (pds_ret pd_bl)) pdss_nil)
  (pdss_cons (pds_asg (pd_pop (pd_var 2 (pv 2))) (pdg_tup rfl (pdgs_cons (pdg_name (i := 4) (pg_name (i := 4) sc__law_same.nd rfl (by first | exact .inl rfl | exact .inr rfl))) (pdgs_cons (pdg_name (i := 5) (pg_name (i := 5) sc__law_same.nd rfl (by first | exact .inl rfl | exact .inr rfl))) pdgs_nil))))
  (pdss_one (pds_if (pdt_val (pd_isi (T := "tuple") (t := "tuple") T.b_isinstance (pd_var 5 (pv 5)) T.b_tuple (by decide +kernel))) (pdss_cons (pds_if (par_of (pdw_or (pdt_not (pdt_val (pd_isi (T := "tuple") (t := "tuple") T.b_isinstance (pd_var 4 (pv 4)) T.b_tuple (by decide +kernel)))) (pdw_or1 (pdt_ne (pd_len T.b_len (pda_cons (pd_var 4 (pv 4)) pda_nil)) (pd_len T.b_len (pda_cons (pd_var 5 (pv 5)) pda_nil)))))) (pdss_one (pds_ret pd_bl)) pdss_nil)
  (pdss_one (pds_for PassesOwn.never rfl (pdi_range1 T.b_range (pd_len T.b_len (pda_cons (pd_var 5 (pv 5)) pda_nil))) (pdg_name (i := 6) (pg_name (i := 6) sc__law_same.nd rfl (by first | exact .inl rfl | exact .inr rfl))) (pdss_one (pds_expr (pd_append (pd_var 2 (pv 2)) (pda_cons (pd_tup (pda_cons (pd_ix (pd_var 4 (pv 4)) (pd_var 6 (pv 6))) (pda_cons (pd_ix (pd_var 5 (pv 5)) (pd_var 6 (pv 6))) pda_nil))) pda_nil))))))) (pdss_one (pds_if (par_of (pdw_or (pdt_not (pdt_val (pd_callD hr (D__law_whole.mono (by decide)) (pda_cons (pd_var 4 (pv 4)) pda_nil)))) (pdw_or1 (pdt_ne (pd_var 4 (pv 4)) (pd_var 5 (pv 5)))))) (pdss_one (pds_ret pd_bl)) pdss_nil)))))))
  (pdss_one (pds_ret pd_bl))))
abbrev N_pour_sum : List Str := ["book", "start", "play"]
theorem sc_pour_sum : FnScope N_pour_sum ["book", "start", "play"] (defScope (top 16)) := ⟨rfl, rfl, rfl, by decide +kernel, rfl, by decide +kernel, by decide +kernel⟩
theorem ok_pour_sum (T : Tx K mg) (D_noughts : DefOk P w K mg base "noughts" 1 ["tanks"] f_noughts) (D_level_course : DefOk P w K mg base "level_course" 2 ["book", "start", "levels", "play"] f_level_course) : DefOk P w K mg base "pour_sum" 3 ["book", "start", "play"] f_pour_sum := by
  obtain ⟨f, fd, F, hm⟩ := T.d_pour_sum
  refine ⟨f, fd, fnD (N := N_pour_sum) (c := c_pour_sum) (k := 2) F sc_pour_sum (fun cdv A outer s H E hr => ?_), hm, F.kp, F.bindsN fun _ _ _ _ _ _ us hl => match us, hl with | [_, _, _], _ => rfl, fdAt_of F⟩
  exact (pdss_one (pds_ret (pd_ix (pd_callD hr (D_level_course.mono (by decide)) (pda_cons (pd_var 0 (pv 0)) (pda_cons (pd_var 1 (pv 1)) (pda_cons (pd_callD hr (D_noughts.mono (by decide)) (pda_cons (pd_ix (pd_var 0 (pv 0)) pd_int) pda_nil)) (pda_cons (pd_var 2 (pv 2)) pda_nil))))) (pd_neg pd_int))))
abbrev N_is_integer : List Str := ["thing"]
theorem sc_is_integer : FnScope N_is_integer ["thing"] (defScope (top 24)) := ⟨rfl, rfl, rfl, by decide +kernel, rfl, by decide +kernel, by decide +kernel⟩
theorem ok_is_integer (T : Tx K mg)  : DefOk P w K mg base "is_integer" 1 ["thing"] f_is_integer := by
  obtain ⟨f, fd, F, hm⟩ := T.d_is_integer
  refine ⟨f, fd, fnD (N := N_is_integer) (c := c_is_integer) (k := 0) F sc_is_integer (fun cdv A outer s H E hr => ?_), hm, F.kp, F.bindsN fun _ _ _ _ _ _ us hl => match us, hl with | [_], _ => rfl, fdAt_of F⟩
  exact (pdss_one (pds_ret (pd_and (pd_isi (T := "int") (t := "int") T.b_isinstance (pd_var 0 (pv 0)) T.b_int (by decide +kernel)) (pd_one (pd_not (pd_isi (T := "bool") (t := "bool") T.b_isinstance (pd_var 0 (pv 0)) T.b_bool (by decide +kernel)))))))
abbrev N_integer_within : List Str := ["thing", "low", "high"]
theorem sc_integer_within : FnScope N_integer_within ["thing", "low", "high"] (defScope (top 25)) := ⟨rfl, rfl, rfl, by decide +kernel, rfl, by decide +kernel, by decide +kernel⟩
theorem ok_integer_within (T : Tx K mg) (D_is_integer : DefOk P w K mg base "is_integer" 1 ["thing"] f_is_integer) : DefOk P w K mg base "integer_within" 2 ["thing", "low", "high"] f_integer_within := by
  obtain ⟨f, fd, F, hm⟩ := T.d_integer_within
  refine ⟨f, fd, fnD (N := N_integer_within) (c := c_integer_within) (k := 1) F sc_integer_within (fun cdv A outer s H E hr => ?_), hm, F.kp, F.bindsN fun _ _ _ _ _ _ us hl => match us, hl with | [_, _, _], _ => rfl, fdAt_of F⟩
  exact (pdss_one (pds_ret (pd_and (pd_callD hr (D_is_integer.mono (by decide)) (pda_cons (pd_var 0 (pv 0)) pda_nil)) (pd_one (pd_chain (pe_chain op_le op_le (pd_var 1 (pv 1)) (pd_var 0 (pv 0)) (pd_var 2 (pv 2))) ok_cmp ok_cmp)))))
abbrev N_is_dry : List Str := ["levels", "level"]
theorem sc_is_dry : FnScope N_is_dry ["levels"] (defScope (top 6)) := ⟨rfl, rfl, rfl, by decide +kernel, rfl, by decide +kernel, by decide +kernel⟩
theorem ok_is_dry (T : Tx K mg)  : DefOk P w K mg base "is_dry" 1 ["levels"] f_is_dry := by
  obtain ⟨f, fd, F, hm⟩ := T.d_is_dry
  refine ⟨f, fd, fnD (N := N_is_dry) (c := c_is_dry) (k := 0) F sc_is_dry (fun cdv A outer s H E hr => ?_), hm, F.kp, F.bindsN fun _ _ _ _ _ _ us hl => match us, hl with | [_], _ => rfl, fdAt_of F⟩
  exact (pdss_one (pds_ret (pd_any rfl T.b_any (pda_cons (pd_lc false (own := [("level", 1)]) (ws := [1]) (g := (gN 1)) (t := tYesD) (e := (cBin ltD (cVar 1) (cC (.int 0)))) rfl sc_is_dry.nd (pdi_seq (pd_var 0 (pv 0))) (blkOk_by (own := [("level", 1)]) (N := N_is_dry) (sc := defScope (top 6)) (by decide +kernel)) (by decide) (fun _ _ _ _ _ => (pdg_name (i := 1) (pg_name (i := 1) sc_is_dry.nd rfl (by first | exact .inl rfl | exact .inr rfl)))) (fun _ _ _ _ _ => pdts_nil) (fun _ _ _ _ _ => (pd_lt (pd_var 1 (pv 1)) pd_int))) pda_nil))))
abbrev N_check_play : List Str := ["book", "start", "levels", "thing", "standing", "place", "number", "moves"]
theorem sc_check_play : FnScope N_check_play ["book", "start", "levels", "thing"] (defScope (top 27)) := ⟨rfl, rfl, rfl, by decide +kernel, rfl, by decide +kernel, by decide +kernel⟩
theorem ok_check_play (T : Tx K mg) (D_poured : DefOk P w K mg base "poured" 1 ["levels", "pours"] f_poured) (D_integer_within : DefOk P w K mg base "integer_within" 2 ["thing", "low", "high"] f_integer_within) (D_is_dry : DefOk P w K mg base "is_dry" 1 ["levels"] f_is_dry) (D_moves_of : DefOk P w K mg base "moves_of" 1 ["book", "standing"] f_moves_of) : DefOk P w K mg base "check_play" 3 ["book", "start", "levels", "thing"] f_check_play := by
  obtain ⟨f, fd, F, hm⟩ := T.d_check_play
  refine ⟨f, fd, fnD (N := N_check_play) (c := c_check_play) (k := 2) F sc_check_play (fun cdv A outer s H E hr => ?_), hm, F.kp, F.bindsN fun _ _ _ _ _ _ us hl => match us, hl with | [_, _, _, _], _ => rfl, fdAt_of F⟩
  exact (pdss_cons (pds_if (par_of (pdw_or (pdt_not (pdt_val (pd_isi (T := "tuple") (t := "tuple") T.b_isinstance (pd_var 3 (pv 3)) T.b_tuple (by decide +kernel)))) (pdw_or1 (pdt_gt (pd_len T.b_len (pda_cons (pd_var 3 (pv 3)) pda_nil)) (pd_globE rfl T.g_PLAY_MOST))))) (pdss_one pds_never) pdss_nil)
  (pdss_cons (pds_set (ps_set (i := 4) sc_check_play.nd rfl (by first | exact .inl rfl | exact .inr rfl) (pd_var 1 (pv 1))))
  (pdss_cons (pds_for PassesOwn.never rfl (pdi_enum T.b_enumerate (pd_var 3 (pv 3))) (pdg_tup rfl (pdgs_cons (pdg_name (i := 5) (pg_name (i := 5) sc_check_play.nd rfl (by first | exact .inl rfl | exact .inr rfl))) (pdgs_cons (pdg_name (i := 6) (pg_name (i := 6) sc_check_play.nd rfl (by first | exact .inl rfl | exact .inr rfl))) pdgs_nil))) (pdss_cons (pds_set (ps_set (i := 7) sc_check_play.nd rfl (by first | exact .inl rfl | exact .inr rfl) (pd_callD hr (D_moves_of.mono (by decide)) (pda_cons (pd_var 0 (pv 0)) (pda_cons (pd_var 4 (pv 4)) pda_nil)))))
  (pdss_cons (pds_if (par_of (pdw_or (pdt_val (pd_callD hr (D_is_dry.mono (by decide)) (pda_cons (pd_var 2 (pv 2)) pda_nil))) (pdw_or1 (pdt_not (pdt_tr (pd_var 7 (pv 7))))))) (pdss_one pds_never) pdss_nil)
  (pdss_cons (pds_if (pdt_not (pdt_val (pd_callD hr (D_integer_within.mono (by decide)) (pda_cons (pd_var 6 (pv 6)) (pda_cons pd_int (pda_cons (pd_sub (pd_len T.b_len (pda_cons (pd_var 7 (pv 7)) pda_nil)) pd_int) pda_nil)))))) (pdss_one pds_never) pdss_nil)
  (pdss_cons (pds_set (ps_set (i := 2) sc_check_play.nd rfl (by first | exact .inl rfl | exact .inr rfl) (pd_callD hr (D_poured.mono (by decide)) (pda_cons (pd_var 2 (pv 2)) (pda_cons (pd_ix (pd_ix (pd_var 7 (pv 7)) (pd_var 6 (pv 6))) pd_int) pda_nil)))))
  (pdss_one (pds_set (ps_set (i := 4) sc_check_play.nd rfl (by first | exact .inl rfl | exact .inr rfl) (pd_ix (pd_ix (pd_var 7 (pv 7)) (pd_var 6 (pv 6))) pd_int)))))))))
  (pdss_one (pds_ret (pd_len T.b_len (pda_cons (pd_var 3 (pv 3)) pda_nil)))))))
abbrev N__law_course : List Str := ["book", "start", "levels", "play", "course", "s", "move", "word", "pours", "to", "t"]
theorem sc__law_course : FnScope N__law_course ["book", "start", "levels", "play"] (defScope (top 34)) := ⟨rfl, rfl, rfl, by decide +kernel, rfl, by decide +kernel, by decide +kernel⟩
theorem ok__law_course (T : Tx K mg) (D__law_whole : DefOk P w K mg base "_law_whole" 1 ["thing"] f__law_whole) : DefOk P w K mg base "_law_course" 2 ["book", "start", "levels", "play"] f__law_course := by
  obtain ⟨f, fd, F, hm⟩ := T.d__law_course
  refine ⟨f, fd, fnD (N := N__law_course) (c := c__law_course) (k := 1) F sc__law_course (fun cdv A outer s H E hr => ?_), hm, F.kp, F.bindsN fun _ _ _ _ _ _ us hl => match us, hl with | [_, _, _, _], _ => rfl, fdAt_of F⟩
  exact (pdss_cons (pds_asg (pd_tup (pda_cons (pd_lstB (pda_cons (pd_var 2 (pv 2)) pda_nil)) (pda_cons (pd_var 1 (pv 1)) pda_nil))) (pdg_tup rfl (pdgs_cons (pdg_name (i := 4) (pg_name (i := 4) sc__law_course.nd rfl (by first | exact .inl rfl | exact .inr rfl))) (pdgs_cons (pdg_name (i := 5) (pg_name (i := 5) sc__law_course.nd rfl (by first | exact .inl rfl | exact .inr rfl))) pdgs_nil))))
  (pdss_cons (pds_for PassesOwn.never rfl (pdi_seq (pd_var 3 (pv 3))) (pdg_name (i := 6) (pg_name (i := 6) sc__law_course.nd rfl (by first | exact .inl rfl | exact .inr rfl))) (pdss_cons (pds_if (par_of (pdw_or (pdt_not (pdt_val (pd_callD hr (D__law_whole.mono (by decide)) (pda_cons (pd_var 6 (pv 6)) pda_nil)))) (pdw_or (pdt_lt (pd_var 6 (pv 6)) pd_int) (pdw_or1 (pdt_ge (pd_var 6 (pv 6)) (pd_len T.b_len (pda_cons (pd_ix (pd_ix (pd_ix (pd_var 0 (pv 0)) pd_int) (pd_var 5 (pv 5))) pd_int) pda_nil))))))) (pdss_one (pds_ret pd_non)) pdss_nil)
  (pdss_cons (pds_asg (pd_ix (pd_ix (pd_ix (pd_ix (pd_var 0 (pv 0)) pd_int) (pd_var 5 (pv 5))) pd_int) (pd_var 6 (pv 6))) (pdg_tup rfl (pdgs_cons (pdg_name (i := 7) (pg_name (i := 7) sc__law_course.nd rfl (by first | exact .inl rfl | exact .inr rfl))) (pdgs_cons (pdg_name (i := 8) (pg_name (i := 8) sc__law_course.nd rfl (by first | exact .inl rfl | exact .inr rfl))) (pdgs_cons (pdg_name (i := 9) (pg_name (i := 9) sc__law_course.nd rfl (by first | exact .inl rfl | exact .inr rfl))) pdgs_nil)))))
  (pdss_cons (pds_expr (pd_append (pd_var 4 (pv 4)) (pda_cons (pd_tuple T.b_tuple (pda_cons (pd_lc false (own := [("t", 10)]) (ws := [10]) (g := (gN 10)) (t := tYesD) (e := (cBin addD (cBin ixD (cBin ixD (cVar 4) (cUn negD (cC (.int 1)))) (cVar 10)) (cBin ixD (cVar 8) (cVar 10)))) rfl sc__law_course.nd (pdi_range1 T.b_range (pd_ix (pd_var 0 (pv 0)) pd_int)) (blkOk_by (own := [("t", 10)]) (N := N__law_course) (sc := defScope (top 34)) (by decide +kernel)) (by decide) (fun _ _ _ _ _ => (pdg_name (i := 10) (pg_name (i := 10) sc__law_course.nd rfl (by first | exact .inl rfl | exact .inr rfl)))) (fun _ _ _ _ _ => pdts_nil) (fun _ _ _ _ _ => (pd_add (pd_ix (pd_ix (pd_var 4 (pv 4)) (pd_neg pd_int)) (pd_var 10 (pv 10))) (pd_ix (pd_var 8 (pv 8)) (pd_var 10 (pv 10)))))) pda_nil)) pda_nil)))
  (pdss_one (pds_set (ps_set (i := 5) sc__law_course.nd rfl (by first | exact .inl rfl | exact .inr rfl) (pd_var 9 (pv 9)))))))))
  (pdss_one (pds_ret (pd_tup (pda_cons (pd_frz (pd_var 4 (pv 4))) (pda_cons (pd_var 5 (pv 5)) pda_nil)))))))
abbrev N__law_told : List Str := ["book", "start", "levels", "told", "course", "s", "sums", "needs", "t", "numbers"]
theorem sc__law_told : FnScope N__law_told ["book", "start", "levels", "told"] (defScope (top 36)) := ⟨rfl, rfl, rfl, by decide +kernel, rfl, by decide +kernel, by decide +kernel⟩
theorem ok__law_told (T : Tx K mg) (D_needed_levels : DefOk P w K mg base "needed_levels" 3 ["book", "start", "play"] f_needed_levels) (D__law_same : DefOk P w K mg base "_law_same" 2 ["told", "due"] f__law_same) (D_pour_sum : DefOk P w K mg base "pour_sum" 3 ["book", "start", "play"] f_pour_sum) (D_level_course : DefOk P w K mg base "level_course" 2 ["book", "start", "levels", "play"] f_level_course) (D_check_play : DefOk P w K mg base "check_play" 3 ["book", "start", "levels", "thing"] f_check_play) (D__law_course : DefOk P w K mg base "_law_course" 2 ["book", "start", "levels", "play"] f__law_course) : DefOk P w K mg base "_law_told" 4 ["book", "start", "levels", "told"] f__law_told := by
  obtain ⟨f, fd, F, hm⟩ := T.d__law_told
  refine ⟨f, fd, fnD (N := N__law_told) (c := c__law_told) (k := 3) F sc__law_told (fun cdv A outer s H E hr => ?_), hm, F.kp, F.bindsN fun _ _ _ _ _ _ us hl => match us, hl with | [_, _, _, _], _ => rfl, fdAt_of F⟩
  exact (pdss_cons (pds_asg (pd_callD hr (D__law_course.mono (by decide)) (pda_cons (pd_var 0 (pv 0)) (pda_cons (pd_var 1 (pv 1)) (pda_cons (pd_var 2 (pv 2)) (pda_cons (pd_var 3 (pv 3)) pda_nil))))) (pdg_tup rfl (pdgs_cons (pdg_name (i := 4) (pg_name (i := 4) sc__law_told.nd rfl (by first | exact .inl rfl | exact .inr rfl))) (pdgs_cons (pdg_name (i := 5) (pg_name (i := 5) sc__law_told.nd rfl (by first | exact .inl rfl | exact .inr rfl))) pdgs_nil))))
  (pdss_cons (pds_if (pdt_not (pdt_val (pd_callD hr (D__law_same.mono (by decide)) (pda_cons (pd_callD hr (D_check_play.mono (by decide)) (pda_cons (pd_var 0 (pv 0)) (pda_cons (pd_var 1 (pv 1)) (pda_cons (pd_var 2 (pv 2)) (pda_cons (pd_var 3 (pv 3)) pda_nil))))) (pda_cons (pd_len T.b_len (pda_cons (pd_var 3 (pv 3)) pda_nil)) pda_nil))))) (pdss_one (pds_ret pd_bl)) pdss_nil)
  (pdss_cons (pds_if (pdt_not (pdt_val (pd_callD hr (D__law_same.mono (by decide)) (pda_cons (pd_callD hr (D_level_course.mono (by decide)) (pda_cons (pd_var 0 (pv 0)) (pda_cons (pd_var 1 (pv 1)) (pda_cons (pd_var 2 (pv 2)) (pda_cons (pd_var 3 (pv 3)) pda_nil))))) (pda_cons (pd_tuple T.b_tuple (pda_cons (pd_var 4 (pv 4)) pda_nil)) pda_nil))))) (pdss_one (pds_ret pd_bl)) pdss_nil)
  (pdss_cons (pds_set (ps_set (i := 6) sc__law_told.nd rfl (by first | exact .inl rfl | exact .inr rfl) (pd_tuple T.b_tuple (pda_cons (pd_lc false (own := [("t", 8)]) (ws := [8]) (g := (gN 8)) (t := tYesD) (e := (cBin subD (cBin ixD (cBin ixD (cVar 4) (cUn negD (cC (.int 1)))) (cVar 8)) (cBin ixD (cVar 2) (cVar 8)))) rfl sc__law_told.nd (pdi_range1 T.b_range (pd_ix (pd_var 0 (pv 0)) pd_int)) (blkOk_by (own := [("t", 8)]) (N := N__law_told) (sc := defScope (top 36)) (by decide +kernel)) (by decide) (fun _ _ _ _ _ => (pdg_name (i := 8) (pg_name (i := 8) sc__law_told.nd rfl (by first | exact .inl rfl | exact .inr rfl)))) (fun _ _ _ _ _ => pdts_nil) (fun _ _ _ _ _ => (pd_sub (pd_ix (pd_ix (pd_var 4 (pv 4)) (pd_neg pd_int)) (pd_var 8 (pv 8))) (pd_ix (pd_var 2 (pv 2)) (pd_var 8 (pv 8)))))) pda_nil))))
  (pdss_cons (pds_set (ps_set (i := 7) sc__law_told.nd rfl (by first | exact .inl rfl | exact .inr rfl) (pd_tuple T.b_tuple (pda_cons (pd_lc false (own := [("t", 8)]) (ws := [8]) (g := (gN 8)) (t := tYesD) (e := (cApp max2D (cCons (cBin addD (cApp mkLst (cCons (cC (.int 0)) cNil)) (cLC [9] false (cItS (cVar 4)) (lt1 (gN 9) tYesD (cBin subD (cBin ixD (cVar 2) (cVar 8)) (cBin ixD (cVar 9) (cVar 8)))))) cNil))) rfl sc__law_told.nd (pdi_range1 T.b_range (pd_ix (pd_var 0 (pv 0)) pd_int)) (blkOk_by (own := [("t", 8)]) (N := N__law_told) (sc := defScope (top 36)) (by decide +kernel)) (by decide) (fun _ _ _ _ _ => (pdg_name (i := 8) (pg_name (i := 8) sc__law_told.nd rfl (by first | exact .inl rfl | exact .inr rfl)))) (fun _ _ _ _ _ => pdts_nil) (fun _ _ _ _ _ => (pd_max rfl T.b_max (pda_cons (pd_add (pd_lst (pda_cons pd_int pda_nil)) (pd_lc false (own := [("numbers", 9)]) (ws := [9]) (g := (gN 9)) (t := tYesD) (e := (cBin subD (cBin ixD (cVar 2) (cVar 8)) (cBin ixD (cVar 9) (cVar 8)))) rfl sc__law_told.nd (pdi_seq (pd_var 4 (pv 4))) (blkOk_by (by kernel_rfl)) (by decide) (fun _ _ _ _ _ => (pdg_name (i := 9) (pg_name (i := 9) sc__law_told.nd rfl (by first | exact .inl rfl | exact .inr rfl)))) (fun _ _ _ _ _ => pdts_nil) (fun _ _ _ _ _ => (pd_sub (pd_ix (pd_var 2 (pv 2)) (pd_var 8 (pv 8))) (pd_ix (pd_var 9 (pv 9)) (pd_var 8 (pv 8))))))) pda_nil)))) pda_nil))))
  (pdss_cons (pds_if (pdt_not (pdt_val (pd_callD hr (D__law_same.mono (by decide)) (pda_cons (pd_callD hr (D_pour_sum.mono (by decide)) (pda_cons (pd_var 0 (pv 0)) (pda_cons (pd_var 1 (pv 1)) (pda_cons (pd_var 3 (pv 3)) pda_nil)))) (pda_cons (pd_var 6 (pv 6)) pda_nil))))) (pdss_one (pds_ret pd_bl)) pdss_nil)
  (pdss_one (pds_ret (pd_callD hr (D__law_same.mono (by decide)) (pda_cons (pd_callD hr (D_needed_levels.mono (by decide)) (pda_cons (pd_var 0 (pv 0)) (pda_cons (pd_var 1 (pv 1)) (pda_cons (pd_var 3 (pv 3)) pda_nil)))) (pda_cons (pd_var 7 (pv 7)) pda_nil)))))))))))
abbrev N__law_least : List Str := ["one", "other", "t"]
theorem sc__law_least : FnScope N__law_least ["one", "other"] (defScope (top 32)) := ⟨rfl, rfl, rfl, by decide +kernel, rfl, by decide +kernel, by decide +kernel⟩
theorem ok__law_least (T : Tx K mg)  : DefOk P w K mg base "_law_least" 1 ["one", "other"] f__law_least := by
  obtain ⟨f, fd, F, hm⟩ := T.d__law_least
  refine ⟨f, fd, fnD (N := N__law_least) (c := c__law_least) (k := 0) F sc__law_least (fun cdv A outer s H E hr => ?_), hm, F.kp, F.bindsN fun _ _ _ _ _ _ us hl => match us, hl with | [_, _], _ => rfl, fdAt_of F⟩
  exact (pdss_one (pds_ret (pd_eq (pd_len T.b_len (pda_cons (pd_lc false (own := [("t", 2)]) (ws := [2]) (g := (gN 2)) (t := (cB (cBin ltD (cBin ixD (cVar 0) (cVar 2)) (cBin ixD (cVar 1) (cVar 2))))) (e := (cVar 2)) rfl sc__law_least.nd (pdi_range1 T.b_range (pd_len T.b_len (pda_cons (pd_var 0 (pv 0)) pda_nil))) (blkOk_by (own := [("t", 2)]) (N := N__law_least) (sc := defScope (top 32)) (by decide +kernel)) (by decide) (fun _ _ _ _ _ => (pdg_name (i := 2) (pg_name (i := 2) sc__law_least.nd rfl (by first | exact .inl rfl | exact .inr rfl)))) (fun _ _ _ _ _ => (pdts_one (pdt_lt (pd_ix (pd_var 0 (pv 0)) (pd_var 2 (pv 2))) (pd_ix (pd_var 1 (pv 1)) (pd_var 2 (pv 2)))))) (fun _ _ _ _ _ => (pd_var 2 (pv 2)))) pda_nil)) pd_int)))
abbrev N__law_right : List Str := ["book", "start", "levels", "goal", "wanted", "told", "due", "found", "numbers"]
theorem sc__law_right : FnScope N__law_right ["book", "start", "levels", "goal", "wanted", "told", "due"] (defScope (top 35)) := ⟨rfl, rfl, rfl, by decide +kernel, rfl, by decide +kernel, by decide +kernel⟩
theorem ok__law_right (T : Tx K mg) (D__law_least : DefOk P w K mg base "_law_least" 1 ["one", "other"] f__law_least) (D__law_course : DefOk P w K mg base "_law_course" 2 ["book", "start", "levels", "play"] f__law_course) : DefOk P w K mg base "_law_right" 3 ["book", "start", "levels", "goal", "wanted", "told", "due"] f__law_right := by
  obtain ⟨f, fd, F, hm⟩ := T.d__law_right
  refine ⟨f, fd, fnD (N := N__law_right) (c := c__law_right) (k := 2) F sc__law_right (fun cdv A outer s H E hr => ?_), hm, F.kp, F.bindsN fun _ _ _ _ _ _ us hl => match us, hl with | [_, _, _, _, _, _, _], _ => rfl, fdAt_of F⟩
  exact (pdss_cons (pds_if (par_of (pdw_or (pdt_isN (pd_var 6 (pv 6)) pd_non) (pdw_or1 (pdt_isN (pd_var 5 (pv 5)) pd_non)))) (pdss_one (pds_ret (pd_and (pd_isN (pd_var 6 (pv 6)) pd_non) (pd_one (pd_isN (pd_var 5 (pv 5)) pd_non))))) pdss_nil)
  (pdss_cons (pds_if (par_of (pdw_or (pdt_not (pdt_val (pd_isi (T := "tuple") (t := "tuple") T.b_isinstance (pd_var 5 (pv 5)) T.b_tuple (by decide +kernel)))) (pdw_or1 (pdt_ne (pd_len T.b_len (pda_cons (pd_var 5 (pv 5)) pda_nil)) (pd_var 6 (pv 6)))))) (pdss_one (pds_ret pd_bl)) pdss_nil)
  (pdss_cons (pds_set (ps_set (i := 7) sc__law_right.nd rfl (by first | exact .inl rfl | exact .inr rfl) (pd_callD hr (D__law_course.mono (by decide)) (pda_cons (pd_var 0 (pv 0)) (pda_cons (pd_var 1 (pv 1)) (pda_cons (pd_var 2 (pv 2)) (pda_cons (pd_var 5 (pv 5)) pda_nil)))))))
  (pdss_cons (pds_if (par_of (pdw_or (pdt_isN (pd_var 7 (pv 7)) pd_non) (pdw_or1 (pdt_gt (pd_len T.b_len (pda_cons (pd_lc false (own := [("numbers", 8)]) (ws := [8]) (g := (gN 8)) (t := (cB (cBin ltD (cApp min2D (cCons (cVar 8) cNil)) (cC (.int 0))))) (e := (cVar 8)) rfl sc__law_right.nd (pdi_seq (pd_ix (pd_var 7 (pv 7)) pd_int)) (blkOk_by (own := [("numbers", 8)]) (N := N__law_right) (sc := defScope (top 35)) (by decide +kernel)) (by decide) (fun _ _ _ _ _ => (pdg_name (i := 8) (pg_name (i := 8) sc__law_right.nd rfl (by first | exact .inl rfl | exact .inr rfl)))) (fun _ _ _ _ _ => (pdts_one (pdt_lt (pd_min rfl hr.units T.b_min (pda_cons (pd_var 8 (pv 8)) pda_nil)) pd_int))) (fun _ _ _ _ _ => (pd_var 8 (pv 8)))) pda_nil)) pd_int)))) (pdss_one (pds_ret pd_bl)) pdss_nil)
  (pdss_one (pds_ret (pd_and (pd_or (pd_isN (pd_var 3 (pv 3)) pd_non) (pd_one (pd_eq (pd_ix (pd_var 7 (pv 7)) pd_int) (pd_var 3 (pv 3))))) (pd_one (pd_callD hr (D__law_least.mono (by decide)) (pda_cons (pd_ix (pd_ix (pd_var 7 (pv 7)) pd_int) (pd_neg pd_int)) (pda_cons (pd_var 4 (pv 4)) pda_nil)))))))))))
abbrev N_layer_behind : List Str := ["book", "came", "layer", "found", "place", "standing", "levels", "number", "move", "there"]
theorem sc_layer_behind : FnScope N_layer_behind ["book", "came", "layer"] (defScope (top 10)) := ⟨rfl, rfl, rfl, by decide +kernel, rfl, by decide +kernel, by decide +kernel⟩
theorem ok_layer_behind (T : Tx K mg) (D_moves_of : DefOk P w K mg base "moves_of" 1 ["book", "standing"] f_moves_of) (D_is_dry : DefOk P w K mg base "is_dry" 1 ["levels"] f_is_dry) (D_poured : DefOk P w K mg base "poured" 1 ["levels", "pours"] f_poured) : DefOk P w K mg base "layer_behind" 2 ["book", "came", "layer"] f_layer_behind := by
  obtain ⟨f, fd, F, hm⟩ := T.d_layer_behind
  refine ⟨f, fd, fnD (N := N_layer_behind) (c := c_layer_behind) (k := 1) F sc_layer_behind (fun cdv A outer s H E hr => ?_), hm, F.kp, F.bindsN fun _ _ _ _ _ _ us hl => match us, hl with | [_, _, _], _ => rfl, fdAt_of F⟩
  exact (pdss_cons (pds_set (ps_set (i := 3) sc_layer_behind.nd rfl (by first | exact .inl rfl | exact .inr rfl) (pd_lstB pda_nil)))
  (pdss_cons (pds_for PassesOwn.never rfl (pdi_seq (pd_var 2 (pv 2))) (pdg_name (i := 4) (pg_name (i := 4) sc_layer_behind.nd rfl (by first | exact .inl rfl | exact .inr rfl))) (pdss_cons (pds_asg (pd_var 4 (pv 4)) (pdg_tup rfl (pdgs_cons (pdg_name (i := 5) (pg_name (i := 5) sc_layer_behind.nd rfl (by first | exact .inl rfl | exact .inr rfl))) (pdgs_cons (pdg_name (i := 6) (pg_name (i := 6) sc_layer_behind.nd rfl (by first | exact .inl rfl | exact .inr rfl))) pdgs_nil))))
  (pdss_one (pds_for PassesOwn.never rfl (pdi_enum T.b_enumerate (pd_callD hr (D_moves_of.mono (by decide)) (pda_cons (pd_var 0 (pv 0)) (pda_cons (pd_var 5 (pv 5)) pda_nil)))) (pdg_tup rfl (pdgs_cons (pdg_name (i := 7) (pg_name (i := 7) sc_layer_behind.nd rfl (by first | exact .inl rfl | exact .inr rfl))) (pdgs_cons (pdg_name (i := 8) (pg_name (i := 8) sc_layer_behind.nd rfl (by first | exact .inl rfl | exact .inr rfl))) pdgs_nil))) (pdss_cons (pds_set (ps_set (i := 9) sc_layer_behind.nd rfl (by first | exact .inl rfl | exact .inr rfl) (pd_tup (pda_cons (pd_ix (pd_var 8 (pv 8)) pd_int) (pda_cons (pd_callD hr (D_poured.mono (by decide)) (pda_cons (pd_var 6 (pv 6)) (pda_cons (pd_ix (pd_var 8 (pv 8)) pd_int) pda_nil))) pda_nil)))))
  (pdss_one (pds_if (par_of (pdw_and (pdt_not (pdt_val (pd_callD hr (D_is_dry.mono (by decide)) (pda_cons (pd_ix (pd_var 9 (pv 9)) pd_int) pda_nil)))) (pdw_and1 (pdt_notIn hr.units (pd_var 9 (pv 9)) (pd_var 1 (pv 1)))))) (pdss_cons (pds_dput hr.units (pd_var 1 (pv 1)) (pd_var 9 (pv 9)) (pd_tup (pda_cons (pd_var 4 (pv 4)) (pda_cons (pd_var 7 (pv 7)) pda_nil))))
  (pdss_one (pds_expr (pd_append (pd_var 3 (pv 3)) (pda_cons (pd_var 9 (pv 9)) pda_nil))))) pdss_nil)))))))
  (pdss_one (pds_ret (pd_frz (pd_var 3 (pv 3)))))))
abbrev N_at_least : List Str := ["one", "other", "left", "right"]
theorem sc_at_least : FnScope N_at_least ["one", "other"] (defScope (top 3)) := ⟨rfl, rfl, rfl, by decide +kernel, rfl, by decide +kernel, by decide +kernel⟩
theorem ok_at_least (T : Tx K mg)  : DefOk P w K mg base "at_least" 1 ["one", "other"] f_at_least := by
  obtain ⟨f, fd, F, hm⟩ := T.d_at_least
  refine ⟨f, fd, fnD (N := N_at_least) (c := c_at_least) (k := 0) F sc_at_least (fun cdv A outer s H E hr => ?_), hm, F.kp, F.bindsN fun _ _ _ _ _ _ us hl => match us, hl with | [_, _], _ => rfl, fdAt_of F⟩
  exact (pdss_one (pds_ret (pd_all rfl T.b_all (pda_cons (pd_lc false (own := [("left", 2), ("right", 3)]) (ws := [2, 3]) (g := (gT 2 (gsCons (gN 2) (gsCons (gN 3) gsNil)))) (t := tYesD) (e := (cBin geD (cVar 2) (cVar 3))) rfl sc_at_least.nd (pdi_zip T.b_zip (pd_var 0 (pv 0)) (pd_var 1 (pv 1))) (blkOk_by (own := [("left", 2), ("right", 3)]) (N := N_at_least) (sc := defScope (top 3)) (by decide +kernel)) (by decide) (fun _ _ _ _ _ => (pdg_tup rfl (pdgs_cons (pdg_name (i := 2) (pg_name (i := 2) sc_at_least.nd rfl (by first | exact .inl rfl | exact .inr rfl))) (pdgs_cons (pdg_name (i := 3) (pg_name (i := 3) sc_at_least.nd rfl (by first | exact .inl rfl | exact .inr rfl))) pdgs_nil)))) (fun _ _ _ _ _ => pdts_nil) (fun _ _ _ _ _ => (pd_ge (pd_var 2 (pv 2)) (pd_var 3 (pv 3))))) pda_nil))))
abbrev N_led_back : List Str := ["came", "place", "play", "before", "number"]
theorem sc_led_back : FnScope N_led_back ["came", "place"] (defScope (top 9)) := ⟨rfl, rfl, rfl, by decide +kernel, rfl, by decide +kernel, by decide +kernel⟩
theorem ok_led_back (T : Tx K mg)  : DefOk P w K mg base "led_back" 1 ["came", "place"] f_led_back := by
  obtain ⟨f, fd, F, hm⟩ := T.d_led_back
  refine ⟨f, fd, fnD (N := N_led_back) (c := c_led_back) (k := 0) F sc_led_back (fun cdv A outer s H E hr => ?_), hm, F.kp, F.bindsN fun _ _ _ _ _ _ us hl => match us, hl with | [_, _], _ => rfl, fdAt_of F⟩
  exact (pdss_cons (pds_set (ps_set (i := 2) sc_led_back.nd rfl (by first | exact .inl rfl | exact .inr rfl) (pd_lstB pda_nil)))
  (pdss_cons (pds_while PassesOwn.never (pdt_notN (pd_dget hr.units (pd_var 0 (pv 0)) (pd_var 1 (pv 1)) (fun _ _ => rfl)) pd_non) (pdss_cons (pds_asg (pd_dget hr.units (pd_var 0 (pv 0)) (pd_var 1 (pv 1)) (fun _ _ => rfl)) (pdg_tup rfl (pdgs_cons (pdg_name (i := 3) (pg_name (i := 3) sc_led_back.nd rfl (by first | exact .inl rfl | exact .inr rfl))) (pdgs_cons (pdg_name (i := 4) (pg_name (i := 4) sc_led_back.nd rfl (by first | exact .inl rfl | exact .inr rfl))) pdgs_nil))))
  (pdss_cons (pds_expr (pd_append (pd_var 2 (pv 2)) (pda_cons (pd_var 4 (pv 4)) pda_nil)))
  (pdss_one (pds_set (ps_set (i := 1) sc_led_back.nd rfl (by first | exact .inl rfl | exact .inr rfl) (pd_var 3 (pv 3))))))))
  (pdss_one (pds_ret (pd_tuple T.b_tuple (pda_cons (pd_rev (pd_var 2 (pv 2))) pda_nil))))))
abbrev N_searched : List Str := ["book", "start", "levels", "goal", "wanted", "most", "came", "layer", "_", "place"]
theorem sc_searched : FnScope N_searched ["book", "start", "levels", "goal", "wanted", "most"] (defScope (top 11)) := ⟨rfl, rfl, rfl, by decide +kernel, rfl, by decide +kernel, by decide +kernel⟩
theorem ok_searched (T : Tx K mg) (D_layer_behind : DefOk P w K mg base "layer_behind" 2 ["book", "came", "layer"] f_layer_behind) (D_at_least : DefOk P w K mg base "at_least" 1 ["one", "other"] f_at_least) (D_led_back : DefOk P w K mg base "led_back" 1 ["came", "place"] f_led_back) : DefOk P w K mg base "searched" 3 ["book", "start", "levels", "goal", "wanted", "most"] f_searched := by
  obtain ⟨f, fd, F, hm⟩ := T.d_searched
  refine ⟨f, fd, fnD (N := N_searched) (c := c_searched) (k := 2) F sc_searched (fun cdv A outer s H E hr => ?_), hm, F.kp, F.bindsN fun _ _ _ _ _ _ us hl => match us, hl with | [_, _, _, _, _, _], _ => rfl, fdAt_of F⟩
  exact (pdss_cons (pds_set (ps_set (i := 6) sc_searched.nd rfl (by first | exact .inl rfl | exact .inr rfl) (pd_disp (nst := true) hr.units (pd_tup (pda_cons (pd_var 1 (pv 1)) (pda_cons (pd_var 2 (pv 2)) pda_nil))) pd_non)))
  (pdss_cons (pds_set (ps_set (i := 7) sc_searched.nd rfl (by first | exact .inl rfl | exact .inr rfl) (pd_lst (pda_cons (pd_tup (pda_cons (pd_var 1 (pv 1)) (pda_cons (pd_var 2 (pv 2)) pda_nil))) pda_nil))))
  (pdss_cons (pds_for PassesOwn.never rfl (pdi_range1 T.b_range (pd_add (pd_var 5 (pv 5)) pd_int)) (pdg_name (i := 8) (pg_name (i := 8) sc_searched.nd rfl (by first | exact .inl rfl | exact .inr rfl))) (pdss_cons (pds_for PassesOwn.never rfl (pdi_seq (pd_var 7 (pv 7))) (pdg_name (i := 9) (pg_name (i := 9) sc_searched.nd rfl (by first | exact .inl rfl | exact .inr rfl))) (pdss_one (pds_if (par_of (pdw_and (par_of (pdw_or (pdt_isN (pd_var 3 (pv 3)) pd_non) (pdw_or1 (pdt_eq (pd_ix (pd_var 9 (pv 9)) pd_int) (pd_var 3 (pv 3)))))) (pdw_and1 (pdt_val (pd_callD hr (D_at_least.mono (by decide)) (pda_cons (pd_ix (pd_var 9 (pv 9)) pd_int) (pda_cons (pd_var 4 (pv 4)) pda_nil))))))) (pdss_one (pds_ret (pd_callD hr (D_led_back.mono (by decide)) (pda_cons (pd_var 6 (pv 6)) (pda_cons (pd_var 9 (pv 9)) pda_nil))))) pdss_nil)))
  (pdss_one (pds_set (ps_set (i := 7) sc_searched.nd rfl (by first | exact .inl rfl | exact .inr rfl) (pd_callD hr (D_layer_behind.mono (by decide)) (pda_cons (pd_var 0 (pv 0)) (pda_cons (pd_var 6 (pv 6)) (pda_cons (pd_var 7 (pv 7)) pda_nil)))))))))
  (pdss_one (pds_ret pd_non)))))
abbrev N_can_come : List Str := ["book", "start", "levels", "goal", "most", "level"]
theorem sc_can_come : FnScope N_can_come ["book", "start", "levels", "goal", "most"] (defScope (top 12)) := ⟨rfl, rfl, rfl, by decide +kernel, rfl, by decide +kernel, by decide +kernel⟩
theorem ok_can_come (T : Tx K mg) (D_searched : DefOk P w K mg base "searched" 3 ["book", "start", "levels", "goal", "wanted", "most"] f_searched) : DefOk P w K mg base "can_come" 4 ["book", "start", "levels", "goal", "most"] f_can_come := by
  obtain ⟨f, fd, F, hm⟩ := T.d_can_come
  refine ⟨f, fd, fnD (N := N_can_come) (c := c_can_come) (k := 3) F sc_can_come (fun cdv A outer s H E hr => ?_), hm, F.kp, F.bindsN fun _ _ _ _ _ _ us hl => match us, hl with | [_, _, _, _, _], _ => rfl, fdAt_of F⟩
  exact (pdss_one (pds_ret (pd_callD hr (D_searched.mono (by decide)) (pda_cons (pd_var 0 (pv 0)) (pda_cons (pd_var 1 (pv 1)) (pda_cons (pd_var 2 (pv 2)) (pda_cons (pd_var 3 (pv 3)) (pda_cons (pd_tuple T.b_tuple (pda_cons (pd_lc false (own := [("level", 5)]) (ws := [5]) (g := (gN 5)) (t := tYesD) (e := (cC (.int 0))) rfl sc_can_come.nd (pdi_seq (pd_var 2 (pv 2))) (blkOk_by (own := [("level", 5)]) (N := N_can_come) (sc := defScope (top 12)) (by decide +kernel)) (by decide) (fun _ _ _ _ _ => (pdg_name (i := 5) (pg_name (i := 5) sc_can_come.nd rfl (by first | exact .inl rfl | exact .inr rfl)))) (fun _ _ _ _ _ => pdts_nil) (fun _ _ _ _ _ => pd_int)) pda_nil)) (pda_cons (pd_var 4 (pv 4)) pda_nil)))))))))
abbrev N__law_comes : List Str := ["book", "start", "levels", "goal", "most", "due", "told"]
theorem sc__law_comes : FnScope N__law_comes ["book", "start", "levels", "goal", "most", "due"] (defScope (top 37)) := ⟨rfl, rfl, rfl, by decide +kernel, rfl, by decide +kernel, by decide +kernel⟩
theorem ok__law_comes (T : Tx K mg) (D__law_told : DefOk P w K mg base "_law_told" 4 ["book", "start", "levels", "told"] f__law_told) (D__law_right : DefOk P w K mg base "_law_right" 3 ["book", "start", "levels", "goal", "wanted", "told", "due"] f__law_right) (D_can_come : DefOk P w K mg base "can_come" 4 ["book", "start", "levels", "goal", "most"] f_can_come) : DefOk P w K mg base "_law_comes" 5 ["book", "start", "levels", "goal", "most", "due"] f__law_comes := by
  obtain ⟨f, fd, F, hm⟩ := T.d__law_comes
  refine ⟨f, fd, fnD (N := N__law_comes) (c := c__law_comes) (k := 4) F sc__law_comes (fun cdv A outer s H E hr => ?_), hm, F.kp, F.bindsN fun _ _ _ _ _ _ us hl => match us, hl with | [_, _, _, _, _, _], _ => rfl, fdAt_of F⟩
  exact (pdss_cons (pds_set (ps_set (i := 6) sc__law_comes.nd rfl (by first | exact .inl rfl | exact .inr rfl) (pd_callD hr (D_can_come.mono (by decide)) (pda_cons (pd_var 0 (pv 0)) (pda_cons (pd_var 1 (pv 1)) (pda_cons (pd_var 2 (pv 2)) (pda_cons (pd_var 3 (pv 3)) (pda_cons (pd_var 4 (pv 4)) pda_nil))))))))
  (pdss_cons (pds_if (pdt_not (pdt_val (pd_callD hr (D__law_right.mono (by decide)) (pda_cons (pd_var 0 (pv 0)) (pda_cons (pd_var 1 (pv 1)) (pda_cons (pd_var 2 (pv 2)) (pda_cons (pd_var 3 (pv 3)) (pda_cons (pd_rep (pd_tup (pda_cons pd_int pda_nil)) (pd_ix (pd_var 0 (pv 0)) pd_int)) (pda_cons (pd_var 6 (pv 6)) (pda_cons (pd_var 5 (pv 5)) pda_nil)))))))))) (pdss_one (pds_ret pd_bl)) pdss_nil)
  (pdss_one (pds_ret (pd_or (pd_isN (pd_var 6 (pv 6)) pd_non) (pd_one (pd_callD hr (D__law_told.mono (by decide)) (pda_cons (pd_var 0 (pv 0)) (pda_cons (pd_var 1 (pv 1)) (pda_cons (pd_var 2 (pv 2)) (pda_cons (pd_var 6 (pv 6)) pda_nil)))))))))))
abbrev N_fewest_moves : List Str := ["book", "start", "levels", "wanted", "most"]
theorem sc_fewest_moves : FnScope N_fewest_moves ["book", "start", "levels", "wanted", "most"] (defScope (top 13)) := ⟨rfl, rfl, rfl, by decide +kernel, rfl, by decide +kernel, by decide +kernel⟩
theorem ok_fewest_moves (T : Tx K mg) (D_searched : DefOk P w K mg base "searched" 3 ["book", "start", "levels", "goal", "wanted", "most"] f_searched) : DefOk P w K mg base "fewest_moves" 4 ["book", "start", "levels", "wanted", "most"] f_fewest_moves := by
  obtain ⟨f, fd, F, hm⟩ := T.d_fewest_moves
  refine ⟨f, fd, fnD (N := N_fewest_moves) (c := c_fewest_moves) (k := 3) F sc_fewest_moves (fun cdv A outer s H E hr => ?_), hm, F.kp, F.bindsN fun _ _ _ _ _ _ us hl => match us, hl with | [_, _, _, _, _], _ => rfl, fdAt_of F⟩
  exact (pdss_one (pds_ret (pd_callD hr (D_searched.mono (by decide)) (pda_cons (pd_var 0 (pv 0)) (pda_cons (pd_var 1 (pv 1)) (pda_cons (pd_var 2 (pv 2)) (pda_cons pd_non (pda_cons (pd_var 3 (pv 3)) (pda_cons (pd_var 4 (pv 4)) pda_nil)))))))))
abbrev N__law_wants : List Str := ["book", "start", "levels", "wanted", "most", "due", "told"]
theorem sc__law_wants : FnScope N__law_wants ["book", "start", "levels", "wanted", "most", "due"] (defScope (top 38)) := ⟨rfl, rfl, rfl, by decide +kernel, rfl, by decide +kernel, by decide +kernel⟩
theorem ok__law_wants (T : Tx K mg) (D__law_told : DefOk P w K mg base "_law_told" 4 ["book", "start", "levels", "told"] f__law_told) (D__law_right : DefOk P w K mg base "_law_right" 3 ["book", "start", "levels", "goal", "wanted", "told", "due"] f__law_right) (D_fewest_moves : DefOk P w K mg base "fewest_moves" 4 ["book", "start", "levels", "wanted", "most"] f_fewest_moves) : DefOk P w K mg base "_law_wants" 5 ["book", "start", "levels", "wanted", "most", "due"] f__law_wants := by
  obtain ⟨f, fd, F, hm⟩ := T.d__law_wants
  refine ⟨f, fd, fnD (N := N__law_wants) (c := c__law_wants) (k := 4) F sc__law_wants (fun cdv A outer s H E hr => ?_), hm, F.kp, F.bindsN fun _ _ _ _ _ _ us hl => match us, hl with | [_, _, _, _, _, _], _ => rfl, fdAt_of F⟩
  exact (pdss_cons (pds_set (ps_set (i := 6) sc__law_wants.nd rfl (by first | exact .inl rfl | exact .inr rfl) (pd_callD hr (D_fewest_moves.mono (by decide)) (pda_cons (pd_var 0 (pv 0)) (pda_cons (pd_var 1 (pv 1)) (pda_cons (pd_var 2 (pv 2)) (pda_cons (pd_var 3 (pv 3)) (pda_cons (pd_var 4 (pv 4)) pda_nil))))))))
  (pdss_cons (pds_if (pdt_not (pdt_val (pd_callD hr (D__law_right.mono (by decide)) (pda_cons (pd_var 0 (pv 0)) (pda_cons (pd_var 1 (pv 1)) (pda_cons (pd_var 2 (pv 2)) (pda_cons pd_non (pda_cons (pd_var 3 (pv 3)) (pda_cons (pd_var 6 (pv 6)) (pda_cons (pd_var 5 (pv 5)) pda_nil)))))))))) (pdss_one (pds_ret pd_bl)) pdss_nil)
  (pdss_one (pds_ret (pd_or (pd_isN (pd_var 6 (pv 6)) pd_non) (pd_one (pd_callD hr (D__law_told.mono (by decide)) (pda_cons (pd_var 0 (pv 0)) (pda_cons (pd_var 1 (pv 1)) (pda_cons (pd_var 2 (pv 2)) (pda_cons (pd_var 6 (pv 6)) pda_nil)))))))))))
abbrev N__law_laps : List Str := ["need", "have", "gain"]
theorem sc__law_laps : FnScope N__law_laps ["need", "have", "gain"] (defScope (top 41)) := ⟨rfl, rfl, rfl, by decide +kernel, rfl, by decide +kernel, by decide +kernel⟩
theorem ok__law_laps (T : Tx K mg)  : DefOk P w K mg base "_law_laps" 1 ["need", "have", "gain"] f__law_laps := by
  obtain ⟨f, fd, F, hm⟩ := T.d__law_laps
  refine ⟨f, fd, fnD (N := N__law_laps) (c := c__law_laps) (k := 0) F sc__law_laps (fun cdv A outer s H E hr => ?_), hm, F.kp, F.bindsN fun _ _ _ _ _ _ us hl => match us, hl with | [_, _, _], _ => rfl, fdAt_of F⟩
  exact (pdss_one (pds_ret (pd_max rfl T.b_max (pda_cons pd_int (pda_cons (pd_neg (pd_fdiv (pd_sub (pd_var 1 (pv 1)) (pd_var 0 (pv 0))) (pd_var 2 (pv 2)))) pda_nil)))))
abbrev N__law_pumps : List Str := ["draws", "great", "gains", "levels", "needs", "owner", "moves", "turn", "book", "laps", "k"]
theorem sc__law_pumps : FnScope N__law_pumps ["draws", "great"] (defScope (top 42)) := ⟨rfl, rfl, rfl, by decide +kernel, rfl, by decide +kernel, by decide +kernel⟩
theorem ok__law_pumps (T : Tx K mg) (D__law_comes : DefOk P w K mg base "_law_comes" 5 ["book", "start", "levels", "goal", "most", "due"] f__law_comes) (D_can_come : DefOk P w K mg base "can_come" 4 ["book", "start", "levels", "goal", "most"] f_can_come) (D_fewest_moves : DefOk P w K mg base "fewest_moves" 4 ["book", "start", "levels", "wanted", "most"] f_fewest_moves) (D__law_wants : DefOk P w K mg base "_law_wants" 5 ["book", "start", "levels", "wanted", "most", "due"] f__law_wants) (D__law_laps : DefOk P w K mg base "_law_laps" 1 ["need", "have", "gain"] f__law_laps) : DefOk P w K mg base "_law_pumps" 6 ["draws", "great"] f__law_pumps := by
  obtain ⟨f, fd, F, hm⟩ := T.d__law_pumps
  refine ⟨f, fd, fnD (N := N__law_pumps) (c := c__law_pumps) (k := 5) F sc__law_pumps (fun cdv A outer s H E hr => ?_), hm, F.kp, F.bindsN fun _ _ _ _ _ _ us hl => match us, hl with | [_, _], _ => rfl, fdAt_of F⟩
  exact (pdss_cons (pds_setLc (i := 2) false (own := [("k", 10)]) (ws := [10]) (g := (gN 10)) (t := tYesD) (e := (cBin addD (cC (.int 1)) (cBin modD (cApp intD (cCons (cBin ixD (cVar 0) (cVar 10)) cNil)) (cC (.int 3))))) rfl sc__law_pumps.nd rfl rfl (sw_true rfl rfl rfl (by decide +kernel)) (pdi_range1 T.b_range pd_int) (blkOk_by (own := [("k", 10)]) (N := N__law_pumps) (sc := defScope (top 42)) (by decide +kernel)) (by decide) (fun _ _ _ _ _ => (pdg_name (i := 10) (pg_name (i := 10) sc__law_pumps.nd rfl (by first | exact .inl rfl | exact .inr rfl)))) (fun _ _ _ _ _ => pdts_nil) (fun _ _ _ _ _ => (pd_add pd_int (pd_mod (pd_int' T.b_int (pda_cons (pd_ix (pd_var 0 (pv 0)) (pd_var 10 (pv 10))) pda_nil)) pd_int))))
  (pdss_cons (pds_set (ps_set (i := 3) sc__law_pumps.nd rfl (by first | exact .inl rfl | exact .inr rfl) (pd_tup (pda_cons (pd_mod (pd_int' T.b_int (pda_cons (pd_ix (pd_var 0 (pv 0)) pd_int) pda_nil)) pd_int) (pda_cons (pd_mod (pd_int' T.b_int (pda_cons (pd_ix (pd_var 0 (pv 0)) pd_int) pda_nil)) pd_int) pda_nil)))))
  (pdss_cons (pds_set (ps_set (i := 4) sc__law_pumps.nd rfl (by first | exact .inl rfl | exact .inr rfl) (pd_tup (pda_cons (pd_mod (pd_int' T.b_int (pda_cons (pd_ix (pd_var 0 (pv 0)) pd_int) pda_nil)) pd_int) (pda_cons (pd_mod (pd_int' T.b_int (pda_cons (pd_ix (pd_var 0 (pv 0)) pd_int) pda_nil)) pd_int) pda_nil)))))
  (pdss_cons (pds_if (pdt_tr (pd_var 1 (pv 1))) (pdss_one (pds_par3 (i := 2) (j := 3) (l := 4) (ps_par3 rfl sc__law_pumps.nd rfl rfl rfl (by decide) (by decide) (by decide) rfl rfl rfl (pda_cons (pd_lst (pda_cons pd_int (pda_cons pd_int pda_nil))) (pda_cons (pd_tup (pda_cons (pd_mod (pd_int' T.b_int (pda_cons (pd_ix (pd_var 0 (pv 0)) pd_int) pda_nil)) pd_int) (pda_cons pd_int pda_nil))) (pda_cons (pd_tup (pda_cons (pd_add pd_int (pd_mod (pd_int' T.b_int (pda_cons (pd_ix (pd_var 0 (pv 0)) pd_int) pda_nil)) pd_int)) (pda_cons (pd_mod (pd_int' T.b_int (pda_cons (pd_ix (pd_var 0 (pv 0)) pd_int) pda_nil)) pd_int) pda_nil))) pda_nil))) rfl))) pdss_nil)
  (pdss_cons (pds_set (ps_set (i := 5) sc__law_pumps.nd rfl (by first | exact .inl rfl | exact .inr rfl) (pd_ix (pd_lst (pda_cons pd_str (pda_cons pd_str pda_nil))) (pd_mod (pd_int' T.b_int (pda_cons (pd_ix (pd_var 0 (pv 0)) pd_int) pda_nil)) pd_int))))
  (pdss_cons (pds_set (ps_set (i := 6) sc__law_pumps.nd rfl (by first | exact .inl rfl | exact .inr rfl) (pd_lst (pda_cons (pd_tup (pda_cons pd_str (pda_cons (pd_tup (pda_cons (pd_ix (pd_var 2 (pv 2)) pd_int) (pda_cons pd_int pda_nil))) (pda_cons pd_int pda_nil)))) (pda_cons (pd_tup (pda_cons pd_str (pda_cons (pd_tup (pda_cons (pd_neg (pd_ix (pd_var 4 (pv 4)) pd_int)) (pda_cons (pd_neg (pd_ix (pd_var 4 (pv 4)) pd_int)) pda_nil))) (pda_cons pd_int pda_nil)))) (pda_cons (pd_tup (pda_cons pd_str (pda_cons (pd_tup (pda_cons pd_int (pda_cons (pd_ix (pd_var 2 (pv 2)) pd_int) pda_nil))) (pda_cons pd_int pda_nil)))) pda_nil))))))
  (pdss_cons (pds_set (ps_set (i := 6) sc__law_pumps.nd rfl (by first | exact .inl rfl | exact .inr rfl) (pd_if (pdt_tr (pd_var 1 (pv 1))) (pd_slice (bx := false) (pd_var 6 (pv 6)) pdo_none (pdo_some pd_int)) (pd_var 6 (pv 6)))))
  (pdss_cons (pds_set (ps_set (i := 7) sc__law_pumps.nd rfl (by first | exact .inl rfl | exact .inr rfl) (pd_mod (pd_int' T.b_int (pda_cons (pd_ix (pd_var 0 (pv 0)) pd_int) pda_nil)) (pd_len T.b_len (pda_cons (pd_var 6 (pv 6)) pda_nil)))))
  (pdss_cons (pds_set (ps_set (i := 8) sc__law_pumps.nd rfl (by first | exact .inl rfl | exact .inr rfl) (pd_tup (pda_cons pd_int (pda_cons (pd_tup (pda_cons (pd_tup (pda_cons (pd_var 5 (pv 5)) (pda_cons (pd_tuple T.b_tuple (pda_cons (pd_add (pd_slice (bx := false) (pd_var 6 (pv 6)) (pdo_some (pd_var 7 (pv 7))) pdo_none) (pd_slice (bx := false) (pd_var 6 (pv 6)) pdo_none (pdo_some (pd_var 7 (pv 7))))) pda_nil)) pda_nil))) (pda_cons (pd_tup (pda_cons (pd_ix (pd_lst (pda_cons pd_str (pda_cons pd_str pda_nil))) (pd_mod (pd_int' T.b_int (pda_cons (pd_ix (pd_var 0 (pv 0)) pd_int) pda_nil)) pd_int)) (pda_cons (pd_tup pda_nil) pda_nil))) pda_nil))) pda_nil)))))
  (pdss_cons (pds_set (ps_set (i := 9) sc__law_pumps.nd rfl (by first | exact .inl rfl | exact .inr rfl) (pd_add (pd_callD hr (D__law_laps.mono (by decide)) (pda_cons (pd_ix (pd_var 4 (pv 4)) pd_int) (pda_cons (pd_ix (pd_var 3 (pv 3)) pd_int) (pda_cons (pd_ix (pd_var 2 (pv 2)) pd_int) pda_nil)))) (pd_callD hr (D__law_laps.mono (by decide)) (pda_cons (pd_ix (pd_var 4 (pv 4)) pd_int) (pda_cons (pd_ix (pd_var 3 (pv 3)) pd_int) (pda_cons (pd_ix (pd_var 2 (pv 2)) pd_int) pda_nil)))))))
  (pdss_cons (pds_if (par_of (pdw_or (pdt_not (pdt_val (pd_callD hr (D__law_comes.mono (by decide)) (pda_cons (pd_var 8 (pv 8)) (pda_cons pd_int (pda_cons (pd_var 3 (pv 3)) (pda_cons pd_int (pda_cons (pd_add (pd_var 9 (pv 9)) pd_int) (pda_cons (pd_add (pd_var 9 (pv 9)) pd_int) pda_nil))))))))) (pdw_or1 (pdt_not (pdt_val (pd_callD hr (D__law_comes.mono (by decide)) (pda_cons (pd_var 8 (pv 8)) (pda_cons pd_int (pda_cons (pd_var 3 (pv 3)) (pda_cons pd_int (pda_cons (pd_var 9 (pv 9)) (pda_cons pd_non pda_nil)))))))))))) (pdss_one (pds_ret pd_bl)) pdss_nil)
  (pdss_cons (pds_if (pdt_not (pdt_val (pd_callD hr (D__law_wants.mono (by decide)) (pda_cons (pd_var 8 (pv 8)) (pda_cons pd_int (pda_cons (pd_var 3 (pv 3)) (pda_cons (pd_var 4 (pv 4)) (pda_cons (pd_add (pd_var 9 (pv 9)) (pd_mod (pd_int' T.b_int (pda_cons (pd_ix (pd_var 0 (pv 0)) pd_int) pda_nil)) pd_int)) (pda_cons (pd_var 9 (pv 9)) pda_nil))))))))) (pdss_one (pds_ret pd_bl)) pdss_nil)
  (pdss_cons (pds_if (par_of (pdw_and (pdt_gt (pd_var 9 (pv 9)) pd_int) (pdw_and1 (pdt_notN (pd_callD hr (D_fewest_moves.mono (by decide)) (pda_cons (pd_var 8 (pv 8)) (pda_cons pd_int (pda_cons (pd_var 3 (pv 3)) (pda_cons (pd_var 4 (pv 4)) (pda_cons (pd_sub (pd_var 9 (pv 9)) pd_int) pda_nil)))))) pd_non)))) (pdss_one (pds_ret pd_bl)) pdss_nil)
  (pdss_one (pds_ret (pd_and (pd_callD hr (D__law_comes.mono (by decide)) (pda_cons (pd_var 8 (pv 8)) (pda_cons pd_int (pda_cons (pd_var 3 (pv 3)) (pda_cons pd_int (pda_cons (pd_mod (pd_int' T.b_int (pda_cons (pd_ix (pd_var 0 (pv 0)) pd_int) pda_nil)) pd_int) (pda_cons pd_int pda_nil))))))) (pd_one (pd_isN (pd_callD hr (D_can_come.mono (by decide)) (pda_cons (pd_var 8 (pv 8)) (pda_cons pd_int (pda_cons (pd_var 3 (pv 3)) (pda_cons pd_int (pda_cons pd_int pda_nil)))))) pd_non))))))))))))))))))
abbrev N__law_ring : List Str := ["draws", "many", "great", "pours", "book", "start", "level", "goal", "most", "far", "number", "comes", "k", "wanted", "due"]
theorem sc__law_ring : FnScope N__law_ring ["draws", "many", "great"] (defScope (top 43)) := ⟨rfl, rfl, rfl, by decide +kernel, rfl, by decide +kernel, by decide +kernel⟩
theorem ok__law_ring (T : Tx K mg) (D__law_wants : DefOk P w K mg base "_law_wants" 5 ["book", "start", "levels", "wanted", "most", "due"] f__law_wants) (D__law_comes : DefOk P w K mg base "_law_comes" 5 ["book", "start", "levels", "goal", "most", "due"] f__law_comes) : DefOk P w K mg base "_law_ring" 6 ["draws", "many", "great"] f__law_ring := by
  obtain ⟨f, fd, F, hm⟩ := T.d__law_ring
  refine ⟨f, fd, fnD (N := N__law_ring) (c := c__law_ring) (k := 5) F sc__law_ring (fun cdv A outer s H E hr => ?_), hm, F.kp, F.bindsN fun _ _ _ _ _ _ us hl => match us, hl with | [_, _, _], _ => rfl, fdAt_of F⟩
  exact (pdss_cons (pds_set (ps_set (i := 3) sc__law_ring.nd rfl (by first | exact .inl rfl | exact .inr rfl) (pd_lc true (own := [("k", 12)]) (ws := [12]) (g := (gN 12)) (t := tYesD) (e := (cBin subD (cBin modD (cApp intD (cCons (cBin ixD (cVar 0) (cVar 12)) cNil)) (cC (.int 7))) (cC (.int 3)))) rfl sc__law_ring.nd (pdi_range1 T.b_range (pd_var 1 (pv 1))) (blkOk_by (own := [("k", 12)]) (N := N__law_ring) (sc := defScope (top 43)) (by decide +kernel)) (by decide) (fun _ _ _ _ _ => (pdg_name (i := 12) (pg_name (i := 12) sc__law_ring.nd rfl (by first | exact .inl rfl | exact .inr rfl)))) (fun _ _ _ _ _ => pdts_nil) (fun _ _ _ _ _ => (pd_sub (pd_mod (pd_int' T.b_int (pda_cons (pd_ix (pd_var 0 (pv 0)) (pd_var 12 (pv 12))) pda_nil)) pd_int) pd_int)))))
  (pdss_cons (pds_iaddIx (pd_var 3 (pv 3)) (pd_mod (pd_int' T.b_int (pda_cons (pd_ix (pd_var 0 (pv 0)) pd_int) pda_nil)) (pd_var 1 (pv 1))) (pd_mod (pd_int' T.b_int (pda_cons (pd_ix (pd_var 0 (pv 0)) pd_int) pda_nil)) pd_int))
  (pdss_cons (pds_set (ps_set (i := 4) sc__law_ring.nd rfl (by first | exact .inl rfl | exact .inr rfl) (pd_tup (pda_cons pd_int (pda_cons (pd_tuple T.b_tuple (pda_cons (pd_lc false (own := [("k", 12)]) (ws := [12]) (g := (gN 12)) (t := tYesD) (e := (cApp mkTup (cCons (cC (.str "house")) (cCons (cApp mkTup (cCons (cApp mkTup (cCons (cC (.str "on")) (cCons (cApp mkTup (cCons (cBin ixD (cVar 3) (cVar 12)) cNil)) (cCons (cBin modD (cApp intD (cCons (cBin addD (cVar 12) (cC (.int 1))) cNil)) (cVar 1)) cNil)))) cNil)) cNil)))) rfl sc__law_ring.nd (pdi_range1 T.b_range (pd_var 1 (pv 1))) (blkOk_by (own := [("k", 12)]) (N := N__law_ring) (sc := defScope (top 43)) (by decide +kernel)) (by decide) (fun _ _ _ _ _ => (pdg_name (i := 12) (pg_name (i := 12) sc__law_ring.nd rfl (by first | exact .inl rfl | exact .inr rfl)))) (fun _ _ _ _ _ => pdts_nil) (fun _ _ _ _ _ => (pd_tup (pda_cons pd_str (pda_cons (pd_tup (pda_cons (pd_tup (pda_cons pd_str (pda_cons (pd_tup (pda_cons (pd_ix (pd_var 3 (pv 3)) (pd_var 12 (pv 12))) pda_nil)) (pda_cons (pd_mod (pd_int' T.b_int (pda_cons (pd_add (pd_var 12 (pv 12)) pd_int) pda_nil)) (pd_var 1 (pv 1))) pda_nil)))) pda_nil)) pda_nil))))) pda_nil)) pda_nil)))))
  (pdss_cons (pds_par (i := 5) (j := 6) (ps_par rfl sc__law_ring.nd rfl rfl (by decide) rfl rfl (pda_cons (pd_mod (pd_int' T.b_int (pda_cons (pd_ix (pd_var 0 (pv 0)) pd_int) pda_nil)) (pd_var 1 (pv 1))) (pda_cons (pd_mod (pd_int' T.b_int (pda_cons (pd_ix (pd_var 0 (pv 0)) pd_int) pda_nil)) pd_int) pda_nil)) rfl))
  (pdss_cons (pds_par (i := 7) (j := 8) (ps_par rfl sc__law_ring.nd rfl rfl (by decide) rfl rfl (pda_cons (pd_mod (pd_int' T.b_int (pda_cons (pd_ix (pd_var 0 (pv 0)) pd_int) pda_nil)) (pd_var 1 (pv 1))) (pda_cons (pd_if (pdt_tr (pd_var 2 (pv 2))) pd_int (pd_mod (pd_int' T.b_int (pda_cons (pd_ix (pd_var 0 (pv 0)) pd_int) pda_nil)) pd_int)) pda_nil)) rfl))
  (pdss_cons (pds_par3 (i := 9) (j := 10) (l := 11) (ps_par3 rfl sc__law_ring.nd rfl rfl rfl (by decide) (by decide) (by decide) rfl rfl rfl (pda_cons (pd_mod (pd_int' T.b_int (pda_cons (pd_sub (pd_var 7 (pv 7)) (pd_var 5 (pv 5))) pda_nil)) (pd_var 1 (pv 1))) (pda_cons (pd_var 6 (pv 6)) (pda_cons pd_bl pda_nil))) rfl))
  (pdss_cons (pds_for PassesOwn.never rfl (pdi_range1 T.b_range (pd_var 9 (pv 9))) (pdg_name (i := 12) (pg_name (i := 12) sc__law_ring.nd rfl (by first | exact .inl rfl | exact .inr rfl))) (pdss_cons (pds_iadd (i := 10) sc__law_ring.nd rfl (by first | exact .inl rfl | exact .inr rfl) (pd_ix (pd_var 3 (pv 3)) (pd_mod (pd_int' T.b_int (pda_cons (pd_add (pd_var 5 (pv 5)) (pd_var 12 (pv 12))) pda_nil)) (pd_var 1 (pv 1)))))
  (pdss_one (pds_set (ps_set (i := 11) sc__law_ring.nd rfl (by first | exact .inl rfl | exact .inr rfl) (pd_and (pd_var 11 (pv 11)) (pd_one (pd_ge (pd_var 10 (pv 10)) pd_int))))))))
  (pdss_cons (pds_if (pdt_not (pdt_val (pd_callD hr (D__law_comes.mono (by decide)) (pda_cons (pd_var 4 (pv 4)) (pda_cons (pd_var 5 (pv 5)) (pda_cons (pd_tup (pda_cons (pd_var 6 (pv 6)) pda_nil)) (pda_cons (pd_var 7 (pv 7)) (pda_cons (pd_var 8 (pv 8)) (pda_cons (pd_if (par_of (pdw_and (pdt_tr (pd_var 11 (pv 11))) (pdw_and1 (pdt_le (pd_var 9 (pv 9)) (pd_var 8 (pv 8)))))) (pd_var 9 (pv 9)) pd_non) pda_nil))))))))) (pdss_one (pds_ret pd_bl)) pdss_nil)
  (pdss_cons (pds_par3 (i := 13) (j := 10) (l := 14) (ps_par3 rfl sc__law_ring.nd rfl rfl rfl (by decide) (by decide) (by decide) rfl rfl rfl (pda_cons (pd_add (pd_var 6 (pv 6)) (pd_mod (pd_int' T.b_int (pda_cons (pd_ix (pd_var 0 (pv 0)) pd_int) pda_nil)) (pd_if (pdt_tr (pd_var 2 (pv 2))) pd_int pd_int))) (pda_cons (pd_var 6 (pv 6)) (pda_cons pd_non pda_nil))) rfl))
  (pdss_cons (pds_for PassesOwn.never rfl (pdi_range1 T.b_range (pd_add (pd_var 8 (pv 8)) pd_int)) (pdg_name (i := 12) (pg_name (i := 12) sc__law_ring.nd rfl (by first | exact .inl rfl | exact .inr rfl))) (pdss_cons (pds_if (par_of (pdw_and (pdt_isN (pd_var 14 (pv 14)) pd_non) (pdw_and1 (pdt_ge (pd_var 10 (pv 10)) (pd_var 13 (pv 13)))))) (pdss_one (pds_set (ps_set (i := 14) sc__law_ring.nd rfl (by first | exact .inl rfl | exact .inr rfl) (pd_var 12 (pv 12))))) pdss_nil)
  (pdss_one (pds_set (ps_set (i := 10) sc__law_ring.nd rfl (by first | exact .inl rfl | exact .inr rfl) (pd_if (pdt_ge (pd_var 10 (pv 10)) pd_int) (pd_add (pd_var 10 (pv 10)) (pd_ix (pd_var 3 (pv 3)) (pd_mod (pd_int' T.b_int (pda_cons (pd_add (pd_var 5 (pv 5)) (pd_var 12 (pv 12))) pda_nil)) (pd_var 1 (pv 1))))) (pd_neg (pd_pow pd_int pd_int))))))))
  (pdss_one (pds_ret (pd_callD hr (D__law_wants.mono (by decide)) (pda_cons (pd_var 4 (pv 4)) (pda_cons (pd_var 5 (pv 5)) (pda_cons (pd_tup (pda_cons (pd_var 6 (pv 6)) pda_nil)) (pda_cons (pd_tup (pda_cons (pd_var 13 (pv 13)) pda_nil)) (pda_cons (pd_var 8 (pv 8)) (pda_cons (pd_var 14 (pv 14)) pda_nil)))))))))))))))))))
abbrev N__law_fewest : List Str := ["book", "start", "levels", "goal", "wanted", "most", "layer", "seen", "many", "s", "numbers", "fresh", "word", "pours", "to", "more", "known", "t", "other"]
theorem sc__law_fewest : FnScope N__law_fewest ["book", "start", "levels", "goal", "wanted", "most"] (defScope (top 33)) := ⟨rfl, rfl, rfl, by decide +kernel, rfl, by decide +kernel, by decide +kernel⟩
theorem ok__law_fewest (T : Tx K mg) (D__law_least : DefOk P w K mg base "_law_least" 1 ["one", "other"] f__law_least) : DefOk P w K mg base "_law_fewest" 2 ["book", "start", "levels", "goal", "wanted", "most"] f__law_fewest := by
  obtain ⟨f, fd, F, hm⟩ := T.d__law_fewest
  refine ⟨f, fd, fnD (N := N__law_fewest) (c := c__law_fewest) (k := 1) F sc__law_fewest (fun cdv A outer s H E hr => ?_), hm, F.kp, F.bindsN fun _ _ _ _ _ _ us hl => match us, hl with | [_, _, _, _, _, _], _ => rfl, fdAt_of F⟩
  exact (pdss_cons (pds_par (i := 6) (j := 7) (ps_par rfl sc__law_fewest.nd rfl rfl (by decide) rfl rfl (pda_cons (pd_lst (pda_cons (pd_tup (pda_cons (pd_var 1 (pv 1)) (pda_cons (pd_var 2 (pv 2)) pda_nil))) pda_nil)) (pda_cons (pd_disp (nst := false) hr.units (pd_var 1 (pv 1)) (pd_lst (pda_cons (pd_var 2 (pv 2)) pda_nil))) pda_nil)) rfl))
  (pdss_cons (pds_for PassesOwn.never rfl (pdi_range1 T.b_range (pd_add (pd_var 5 (pv 5)) pd_int)) (pdg_name (i := 8) (pg_name (i := 8) sc__law_fewest.nd rfl (by first | exact .inl rfl | exact .inr rfl))) (pdss_cons (pds_for PassesOwn.never rfl (pdi_seq (pd_var 6 (pv 6))) (pdg_tup rfl (pdgs_cons (pdg_name (i := 9) (pg_name (i := 9) sc__law_fewest.nd rfl (by first | exact .inl rfl | exact .inr rfl))) (pdgs_cons (pdg_name (i := 10) (pg_name (i := 10) sc__law_fewest.nd rfl (by first | exact .inl rfl | exact .inr rfl))) pdgs_nil))) (pdss_one (pds_if (par_of (pdw_and (par_of (pdw_or (pdt_isN (pd_var 3 (pv 3)) pd_non) (pdw_or1 (pdt_eq (pd_var 9 (pv 9)) (pd_var 3 (pv 3)))))) (pdw_and1 (pdt_val (pd_callD hr (D__law_least.mono (by decide)) (pda_cons (pd_var 10 (pv 10)) (pda_cons (pd_var 4 (pv 4)) pda_nil))))))) (pdss_one (pds_ret (pd_var 8 (pv 8)))) pdss_nil)))
  (pdss_cons (pds_set (ps_set (i := 11) sc__law_fewest.nd rfl (by first | exact .inl rfl | exact .inr rfl) (pd_lstB pda_nil)))
  (pdss_cons (pds_for PassesOwn.never rfl (pdi_seq (pd_var 6 (pv 6))) (pdg_tup rfl (pdgs_cons (pdg_name (i := 9) (pg_name (i := 9) sc__law_fewest.nd rfl (by first | exact .inl rfl | exact .inr rfl))) (pdgs_cons (pdg_name (i := 10) (pg_name (i := 10) sc__law_fewest.nd rfl (by first | exact .inl rfl | exact .inr rfl))) pdgs_nil))) (pdss_one (pds_for PassesOwn.never rfl (pdi_seq (pd_ix (pd_ix (pd_ix (pd_var 0 (pv 0)) pd_int) (pd_var 9 (pv 9))) pd_int)) (pdg_tup rfl (pdgs_cons (pdg_name (i := 12) (pg_name (i := 12) sc__law_fewest.nd rfl (by first | exact .inl rfl | exact .inr rfl))) (pdgs_cons (pdg_name (i := 13) (pg_name (i := 13) sc__law_fewest.nd rfl (by first | exact .inl rfl | exact .inr rfl))) (pdgs_cons (pdg_name (i := 14) (pg_name (i := 14) sc__law_fewest.nd rfl (by first | exact .inl rfl | exact .inr rfl))) pdgs_nil)))) (pdss_cons (pds_set (ps_set (i := 15) sc__law_fewest.nd rfl (by first | exact .inl rfl | exact .inr rfl) (pd_tuple T.b_tuple (pda_cons (pd_lc false (own := [("t", 17)]) (ws := [17]) (g := (gN 17)) (t := tYesD) (e := (cBin addD (cBin ixD (cVar 10) (cVar 17)) (cBin ixD (cVar 13) (cVar 17)))) rfl sc__law_fewest.nd (pdi_range1 T.b_range (pd_ix (pd_var 0 (pv 0)) pd_int)) (blkOk_by (own := [("t", 17)]) (N := N__law_fewest) (sc := defScope (top 33)) (by decide +kernel)) (by decide) (fun _ _ _ _ _ => (pdg_name (i := 17) (pg_name (i := 17) sc__law_fewest.nd rfl (by first | exact .inl rfl | exact .inr rfl)))) (fun _ _ _ _ _ => pdts_nil) (fun _ _ _ _ _ => (pd_add (pd_ix (pd_var 10 (pv 10)) (pd_var 17 (pv 17))) (pd_ix (pd_var 13 (pv 13)) (pd_var 17 (pv 17)))))) pda_nil))))
  (pdss_cons (pds_set (ps_set (i := 16) sc__law_fewest.nd rfl (by first | exact .inl rfl | exact .inr rfl) (pd_dget2 hr.units (pd_var 7 (pv 7)) (pd_var 14 (pv 14)) (pd_lst pda_nil) ⟨rfl, rfl, rfl, rfl⟩)))
  (pdss_one (pds_if (par_of (pdw_and (pdt_ge (pd_min rfl hr.units T.b_min (pda_cons (pd_var 15 (pv 15)) pda_nil)) pd_int) (pdw_and1 (pdt_eq (pd_len T.b_len (pda_cons (pd_lc false (own := [("other", 18)]) (ws := [18]) (g := (gN 18)) (t := (cB (cApp (nD 2 f__law_least) (cCons (cVar 18) (cCons (cVar 15) cNil))))) (e := (cVar 18)) rfl sc__law_fewest.nd (pdi_seq (pd_var 16 (pv 16))) (blkOk_by (own := [("other", 18)]) (N := N__law_fewest) (sc := defScope (top 33)) (by decide +kernel)) (by decide) (fun _ _ _ _ _ => (pdg_name (i := 18) (pg_name (i := 18) sc__law_fewest.nd rfl (by first | exact .inl rfl | exact .inr rfl)))) (fun _ _ _ _ _ => (pdts_one (pdt_val (pd_callD hr (D__law_least.mono (by decide)) (pda_cons (pd_var 18 (pv 18)) (pda_cons (pd_var 15 (pv 15)) pda_nil)))))) (fun _ _ _ _ _ => (pd_var 18 (pv 18)))) pda_nil)) pd_int)))) (pdss_cons (pds_dput hr.units (pd_var 7 (pv 7)) (pd_var 14 (pv 14)) (pd_add (pd_lc false (own := [("other", 18)]) (ws := [18]) (g := (gN 18)) (t := (cNot (cB (cApp (nD 2 f__law_least) (cCons (cVar 15) (cCons (cVar 18) cNil)))))) (e := (cVar 18)) rfl sc__law_fewest.nd (pdi_seq (pd_var 16 (pv 16))) (blkOk_by (own := [("other", 18)]) (N := N__law_fewest) (sc := defScope (top 33)) (by decide +kernel)) (by decide) (fun _ _ _ _ _ => (pdg_name (i := 18) (pg_name (i := 18) sc__law_fewest.nd rfl (by first | exact .inl rfl | exact .inr rfl)))) (fun _ _ _ _ _ => (pdts_one (pdt_not (pdt_val (pd_callD hr (D__law_least.mono (by decide)) (pda_cons (pd_var 15 (pv 15)) (pda_cons (pd_var 18 (pv 18)) pda_nil))))))) (fun _ _ _ _ _ => (pd_var 18 (pv 18)))) (pd_lst (pda_cons (pd_var 15 (pv 15)) pda_nil))))
  (pdss_one (pds_expr (pd_append (pd_var 11 (pv 11)) (pda_cons (pd_tup (pda_cons (pd_var 14 (pv 14)) (pda_cons (pd_var 15 (pv 15)) pda_nil))) pda_nil))))) pdss_nil)))))))
  (pdss_cons (pds_set (ps_set (i := 6) sc__law_fewest.nd rfl (by first | exact .inl rfl | exact .inr rfl) (pd_frz (pd_var 11 (pv 11)))))
  (pdss_one (pds_if (pdt_eq (pd_len T.b_len (pda_cons (pd_var 6 (pv 6)) pda_nil)) pd_int) (pdss_one pds_break) pdss_nil)))))))
  (pdss_one (pds_ret pd_non))))
abbrev N__law_book : List Str := ["draws", "tanks", "many", "standings", "s", "moves", "m", "pours", "word", "t"]
theorem sc__law_book : FnScope N__law_book ["draws", "tanks", "many"] (defScope (top 39)) := ⟨rfl, rfl, rfl, by decide +kernel, rfl, by decide +kernel, by decide +kernel⟩
theorem ok__law_book (T : Tx K mg)  : DefOk P w K mg base "_law_book" 1 ["draws", "tanks", "many"] f__law_book := by
  obtain ⟨f, fd, F, hm⟩ := T.d__law_book
  refine ⟨f, fd, fnD (N := N__law_book) (c := c__law_book) (k := 0) F sc__law_book (fun cdv A outer s H E hr => ?_), hm, F.kp, F.bindsN fun _ _ _ _ _ _ us hl => match us, hl with | [_, _, _], _ => rfl, fdAt_of F⟩
  exact (pdss_cons (pds_set (ps_set (i := 3) sc__law_book.nd rfl (by first | exact .inl rfl | exact .inr rfl) (pd_lstB pda_nil)))
  (pdss_cons (pds_for PassesOwn.never rfl (pdi_range1 T.b_range (pd_var 2 (pv 2))) (pdg_name (i := 4) (pg_name (i := 4) sc__law_book.nd rfl (by first | exact .inl rfl | exact .inr rfl))) (pdss_cons (pds_set (ps_set (i := 5) sc__law_book.nd rfl (by first | exact .inl rfl | exact .inr rfl) (pd_lstB pda_nil)))
  (pdss_cons (pds_for PassesOwn.never rfl (pdi_range1 T.b_range (pd_mod (pd_int' T.b_int (pda_cons (pd_ix (pd_var 0 (pv 0)) (pd_mul pd_int (pd_var 4 (pv 4)))) pda_nil)) pd_int)) (pdg_name (i := 6) (pg_name (i := 6) sc__law_book.nd rfl (by first | exact .inl rfl | exact .inr rfl))) (pdss_cons (pds_set (ps_set (i := 7) sc__law_book.nd rfl (by first | exact .inl rfl | exact .inr rfl) (pd_tuple T.b_tuple (pda_cons (pd_lc false (own := [("t", 9)]) (ws := [9]) (g := (gN 9)) (t := tYesD) (e := (cBin subD (cBin modD (cApp intD (cCons (cBin ixD (cVar 0) (cBin addD (cBin addD (cBin addD (cC (.int 40)) (cBin mulD (cC (.int 12)) (cVar 4))) (cBin mulD (cC (.int 4)) (cVar 6))) (cVar 9))) cNil)) (cC (.int 7))) (cC (.int 3)))) rfl sc__law_book.nd (pdi_range1 T.b_range (pd_var 1 (pv 1))) (blkOk_by (own := [("t", 9)]) (N := N__law_book) (sc := defScope (top 39)) (by decide +kernel)) (by decide) (fun _ _ _ _ _ => (pdg_name (i := 9) (pg_name (i := 9) sc__law_book.nd rfl (by first | exact .inl rfl | exact .inr rfl)))) (fun _ _ _ _ _ => pdts_nil) (fun _ _ _ _ _ => (pd_sub (pd_mod (pd_int' T.b_int (pda_cons (pd_ix (pd_var 0 (pv 0)) (pd_add (pd_add (pd_add pd_int (pd_mul pd_int (pd_var 4 (pv 4)))) (pd_mul pd_int (pd_var 6 (pv 6)))) (pd_var 9 (pv 9)))) pda_nil)) pd_int) pd_int))) pda_nil))))
  (pdss_cons (pds_set (ps_set (i := 8) sc__law_book.nd rfl (by first | exact .inl rfl | exact .inr rfl) (pd_add (pd_ix (pd_lst (pda_cons pd_str (pda_cons pd_str (pda_cons pd_str pda_nil)))) (pd_var 6 (pv 6))) (pd_str' T.b_str (pda_cons (pd_mod (pd_int' T.b_int (pda_cons (pd_ix (pd_var 0 (pv 0)) (pd_add (pd_mul pd_int (pd_var 4 (pv 4))) pd_int)) pda_nil)) pd_int) pda_nil)))))
  (pdss_one (pds_expr (pd_append (pd_var 5 (pv 5)) (pda_cons (pd_tup (pda_cons (pd_var 8 (pv 8)) (pda_cons (pd_var 7 (pv 7)) (pda_cons (pd_mod (pd_int' T.b_int (pda_cons (pd_ix (pd_var 0 (pv 0)) (pd_add (pd_add (pd_mul pd_int (pd_var 4 (pv 4))) pd_int) (pd_var 6 (pv 6)))) pda_nil)) (pd_var 2 (pv 2))) pda_nil)))) pda_nil)))))))
  (pdss_one (pds_expr (pd_append (pd_var 3 (pv 3)) (pda_cons (pd_tup (pda_cons (pd_ix (pd_lst (pda_cons pd_str (pda_cons pd_str pda_nil))) (pd_mod (pd_int' T.b_int (pda_cons (pd_ix (pd_var 0 (pv 0)) (pd_add (pd_mul pd_int (pd_var 4 (pv 4))) pd_int)) pda_nil)) pd_int)) (pda_cons (pd_tuple T.b_tuple (pda_cons (pd_var 5 (pv 5)) pda_nil)) pda_nil))) pda_nil)))))))
  (pdss_one (pds_ret (pd_tup (pda_cons (pd_var 1 (pv 1)) (pda_cons (pd_tuple T.b_tuple (pda_cons (pd_var 3 (pv 3)) pda_nil)) pda_nil)))))))
abbrev N__law_drawn : List Str := ["draws", "tanks", "many", "book", "start", "levels", "wanted", "goal", "most", "noughts_v", "t"]
theorem sc__law_drawn : FnScope N__law_drawn ["draws"] (defScope (top 40)) := ⟨rfl, rfl, rfl, by decide +kernel, rfl, by decide +kernel, by decide +kernel⟩
theorem ok__law_drawn (T : Tx K mg) (D__law_fewest : DefOk P w K mg base "_law_fewest" 2 ["book", "start", "levels", "goal", "wanted", "most"] f__law_fewest) (D__law_wants : DefOk P w K mg base "_law_wants" 5 ["book", "start", "levels", "wanted", "most", "due"] f__law_wants) (D__law_comes : DefOk P w K mg base "_law_comes" 5 ["book", "start", "levels", "goal", "most", "due"] f__law_comes) (D__law_book : DefOk P w K mg base "_law_book" 1 ["draws", "tanks", "many"] f__law_book) : DefOk P w K mg base "_law_drawn" 6 ["draws"] f__law_drawn := by
  obtain ⟨f, fd, F, hm⟩ := T.d__law_drawn
  refine ⟨f, fd, fnD (N := N__law_drawn) (c := c__law_drawn) (k := 5) F sc__law_drawn (fun cdv A outer s H E hr => ?_), hm, F.kp, F.bindsN fun _ _ _ _ _ _ us hl => match us, hl with | [_], _ => rfl, fdAt_of F⟩
  exact (pdss_cons (pds_par (i := 1) (j := 2) (ps_par rfl sc__law_drawn.nd rfl rfl (by decide) rfl rfl (pda_cons (pd_add pd_int (pd_mod (pd_int' T.b_int (pda_cons (pd_ix (pd_var 0 (pv 0)) pd_int) pda_nil)) pd_int)) (pda_cons (pd_add pd_int (pd_mod (pd_int' T.b_int (pda_cons (pd_ix (pd_var 0 (pv 0)) pd_int) pda_nil)) pd_int)) pda_nil)) rfl))
  (pdss_cons (pds_par (i := 3) (j := 4) (ps_par rfl sc__law_drawn.nd rfl rfl (by decide) rfl rfl (pda_cons (pd_callD hr (D__law_book.mono (by decide)) (pda_cons (pd_slice (bx := false) (pd_var 0 (pv 0)) (pdo_some pd_int) pdo_none) (pda_cons (pd_var 1 (pv 1)) (pda_cons (pd_var 2 (pv 2)) pda_nil)))) (pda_cons (pd_mod (pd_int' T.b_int (pda_cons (pd_ix (pd_var 0 (pv 0)) pd_int) pda_nil)) (pd_var 2 (pv 2))) pda_nil)) rfl))
  (pdss_cons (pds_set (ps_set (i := 5) sc__law_drawn.nd rfl (by first | exact .inl rfl | exact .inr rfl) (pd_tuple T.b_tuple (pda_cons (pd_lc false (own := [("t", 10)]) (ws := [10]) (g := (gN 10)) (t := tYesD) (e := (cBin modD (cApp intD (cCons (cBin ixD (cVar 0) (cBin addD (cC (.int 3)) (cVar 10))) cNil)) (cC (.int 4)))) rfl sc__law_drawn.nd (pdi_range1 T.b_range (pd_var 1 (pv 1))) (blkOk_by (own := [("t", 10)]) (N := N__law_drawn) (sc := defScope (top 40)) (by decide +kernel)) (by decide) (fun _ _ _ _ _ => (pdg_name (i := 10) (pg_name (i := 10) sc__law_drawn.nd rfl (by first | exact .inl rfl | exact .inr rfl)))) (fun _ _ _ _ _ => pdts_nil) (fun _ _ _ _ _ => (pd_mod (pd_int' T.b_int (pda_cons (pd_ix (pd_var 0 (pv 0)) (pd_add pd_int (pd_var 10 (pv 10)))) pda_nil)) pd_int))) pda_nil))))
  (pdss_cons (pds_set (ps_set (i := 6) sc__law_drawn.nd rfl (by first | exact .inl rfl | exact .inr rfl) (pd_tuple T.b_tuple (pda_cons (pd_lc false (own := [("t", 10)]) (ws := [10]) (g := (gN 10)) (t := tYesD) (e := (cBin modD (cApp intD (cCons (cBin ixD (cVar 0) (cBin addD (cC (.int 6)) (cVar 10))) cNil)) (cC (.int 7)))) rfl sc__law_drawn.nd (pdi_range1 T.b_range (pd_var 1 (pv 1))) (blkOk_by (own := [("t", 10)]) (N := N__law_drawn) (sc := defScope (top 40)) (by decide +kernel)) (by decide) (fun _ _ _ _ _ => (pdg_name (i := 10) (pg_name (i := 10) sc__law_drawn.nd rfl (by first | exact .inl rfl | exact .inr rfl)))) (fun _ _ _ _ _ => pdts_nil) (fun _ _ _ _ _ => (pd_mod (pd_int' T.b_int (pda_cons (pd_ix (pd_var 0 (pv 0)) (pd_add pd_int (pd_var 10 (pv 10)))) pda_nil)) pd_int))) pda_nil))))
  (pdss_cons (pds_par (i := 7) (j := 8) (ps_par rfl sc__law_drawn.nd rfl rfl (by decide) rfl rfl (pda_cons (pd_mod (pd_int' T.b_int (pda_cons (pd_ix (pd_var 0 (pv 0)) pd_int) pda_nil)) (pd_var 2 (pv 2))) (pda_cons (pd_mod (pd_int' T.b_int (pda_cons (pd_ix (pd_var 0 (pv 0)) pd_int) pda_nil)) pd_int) pda_nil)) rfl))
  (pdss_cons (pds_set (ps_set (i := 9) sc__law_drawn.nd rfl (by first | exact .inl rfl | exact .inr rfl) (pd_rep (pd_tup (pda_cons pd_int pda_nil)) (pd_var 1 (pv 1)))))
  (pdss_cons (pds_if (pdt_not (pdt_val (pd_callD hr (D__law_comes.mono (by decide)) (pda_cons (pd_var 3 (pv 3)) (pda_cons (pd_var 4 (pv 4)) (pda_cons (pd_var 5 (pv 5)) (pda_cons (pd_var 7 (pv 7)) (pda_cons (pd_var 8 (pv 8)) (pda_cons (pd_callD hr (D__law_fewest.mono (by decide)) (pda_cons (pd_var 3 (pv 3)) (pda_cons (pd_var 4 (pv 4)) (pda_cons (pd_var 5 (pv 5)) (pda_cons (pd_var 7 (pv 7)) (pda_cons (pd_var 9 (pv 9)) (pda_cons (pd_var 8 (pv 8)) pda_nil))))))) pda_nil))))))))) (pdss_one (pds_ret pd_bl)) pdss_nil)
  (pdss_one (pds_ret (pd_callD hr (D__law_wants.mono (by decide)) (pda_cons (pd_var 3 (pv 3)) (pda_cons (pd_var 4 (pv 4)) (pda_cons (pd_var 5 (pv 5)) (pda_cons (pd_var 6 (pv 6)) (pda_cons (pd_var 8 (pv 8)) (pda_cons (pd_callD hr (D__law_fewest.mono (by decide)) (pda_cons (pd_var 3 (pv 3)) (pda_cons (pd_var 4 (pv 4)) (pda_cons (pd_var 5 (pv 5)) (pda_cons pd_non (pda_cons (pd_var 6 (pv 6)) (pda_cons (pd_var 8 (pv 8)) pda_nil))))))) pda_nil))))))))))))))))
abbrev N__law_draws : List Str := ["script", "many", "cells", "seed", "k", "great", "out", "cell"]
theorem sc__law_draws : FnScope N__law_draws ["script", "many"] (defScope (top 29)) := ⟨rfl, rfl, rfl, by decide +kernel, rfl, by decide +kernel, by decide +kernel⟩
theorem ok__law_draws (T : Tx K mg)  : DefOk P w K mg base "_law_draws" 1 ["script", "many"] f__law_draws := by
  obtain ⟨f, fd, F, hm⟩ := T.d__law_draws
  refine ⟨f, fd, fnD (N := N__law_draws) (c := c__law_draws) (k := 0) F sc__law_draws (fun cdv A outer s H E hr => ?_), hm, F.kp, F.bindsN fun _ _ _ _ _ _ us hl => match us, hl with | [_, _], _ => rfl, fdAt_of F⟩
  exact (pdss_cons (pds_setLc (i := 2) false (own := [("cell", 7)]) (ws := [7]) (g := (gN 7)) (t := tYesD) (e := (cApp intD (cCons (cVar 7) cNil))) rfl sc__law_draws.nd rfl rfl (sw_true rfl rfl rfl (by decide +kernel)) (pdi_seq (pd_slice (bx := false) (pd_var 0 (pv 0)) pdo_none (pdo_some pd_int))) (blkOk_by (own := [("cell", 7)]) (N := N__law_draws) (sc := defScope (top 29)) (by decide +kernel)) (by decide) (fun _ _ _ _ _ => (pdg_name (i := 7) (pg_name (i := 7) sc__law_draws.nd rfl (by first | exact .inl rfl | exact .inr rfl)))) (fun _ _ _ _ _ => pdts_nil) (fun _ _ _ _ _ => (pd_int' T.b_int (pda_cons (pd_var 7 (pv 7)) pda_nil))))
  (pdss_cons (pds_set (ps_set (i := 3) sc__law_draws.nd rfl (by first | exact .inl rfl | exact .inr rfl) pd_int))
  (pdss_cons (pds_for PassesOwn.never rfl (pdi_range1 T.b_range (pd_len T.b_len (pda_cons (pd_var 2 (pv 2)) pda_nil))) (pdg_name (i := 4) (pg_name (i := 4) sc__law_draws.nd rfl (by first | exact .inl rfl | exact .inr rfl))) (pdss_one (pds_set (ps_set (i := 3) sc__law_draws.nd rfl (by first | exact .inl rfl | exact .inr rfl) (pd_mod (pd_int' T.b_int (pda_cons (pd_add (pd_add (pd_add (pd_mul (pd_var 3 (pv 3)) pd_int) (pd_mod (pd_abs T.b_abs (pda_cons (pd_ix (pd_var 2 (pv 2)) (pd_var 4 (pv 4))) pda_nil)) pd_int)) (pd_mul pd_int (pd_var 4 (pv 4)))) pd_int) pda_nil)) pd_int)))))
  (pdss_cons (pds_setLc (i := 5) true (own := [("cell", 7)]) (ws := [7]) (g := (gN 7)) (t := (cB (cBin geD (cApp absD (cCons (cVar 7) cNil)) (cBin powD (cC (.int 10)) (cC (.int 15)))))) (e := (cApp absD (cCons (cVar 7) cNil))) rfl sc__law_draws.nd rfl rfl (sw_true rfl rfl rfl (by decide +kernel)) (pdi_seq (pd_var 2 (pv 2))) (blkOk_by (own := [("cell", 7)]) (N := N__law_draws) (sc := defScope (top 29)) (by decide +kernel)) (by decide) (fun _ _ _ _ _ => (pdg_name (i := 7) (pg_name (i := 7) sc__law_draws.nd rfl (by first | exact .inl rfl | exact .inr rfl)))) (fun _ _ _ _ _ => (pdts_one (pdt_ge (pd_abs T.b_abs (pda_cons (pd_var 7 (pv 7)) pda_nil)) (pd_pow pd_int pd_int)))) (fun _ _ _ _ _ => (pd_abs T.b_abs (pda_cons (pd_var 7 (pv 7)) pda_nil))))
  (pdss_cons (pds_set (ps_set (i := 6) sc__law_draws.nd rfl (by first | exact .inl rfl | exact .inr rfl) (pd_lstB pda_nil)))
  (pdss_cons (pds_for PassesOwn.never rfl (pdi_range1 T.b_range (pd_var 1 (pv 1))) (pdg_name (i := 4) (pg_name (i := 4) sc__law_draws.nd rfl (by first | exact .inl rfl | exact .inr rfl))) (pdss_one (pds_if (pdt_gt (pd_len T.b_len (pda_cons (pd_var 5 (pv 5)) pda_nil)) pd_int) (pdss_cons (pds_expr (pd_append (pd_var 6 (pv 6)) (pda_cons (pd_mod (pd_int' T.b_int (pda_cons (pd_ix (pd_var 5 (pv 5)) pd_int) pda_nil)) pd_int) pda_nil)))
  (pdss_cons (pds_setIx (pd_var 5 (pv 5)) pd_int (pd_fdiv (pd_ix (pd_var 5 (pv 5)) pd_int) pd_int))
  (pdss_one (pds_if (pdt_eq (pd_ix (pd_var 5 (pv 5)) pd_int) pd_int) (pdss_one (pds_set (ps_set (i := 5) sc__law_draws.nd rfl (by first | exact .inl rfl | exact .inr rfl) (pd_slice (bx := true) (pd_var 5 (pv 5)) (pdo_some pd_int) pdo_none)))) pdss_nil)))) (pdss_cons (pds_set (ps_set (i := 3) sc__law_draws.nd rfl (by first | exact .inl rfl | exact .inr rfl) (pd_mod (pd_int' T.b_int (pda_cons (pd_add (pd_mul (pd_var 3 (pv 3)) pd_int) pd_int) pda_nil)) pd_int)))
  (pdss_one (pds_expr (pd_append (pd_var 6 (pv 6)) (pda_cons (pd_fdiv (pd_var 3 (pv 3)) pd_int) pda_nil))))))))
  (pdss_one (pds_ret (pd_frz (pd_var 6 (pv 6)))))))))))
abbrev N_law : List Str := ["script", "draws", "wide"]
theorem sc_law : FnScope N_law ["script"] (defScope (top 44)) := ⟨rfl, rfl, rfl, by decide +kernel, rfl, by decide +kernel, by decide +kernel⟩
theorem ok_law (T : Tx K mg) (D__law_pumps : DefOk P w K mg base "_law_pumps" 6 ["draws", "great"] f__law_pumps) (D__law_ring : DefOk P w K mg base "_law_ring" 6 ["draws", "many", "great"] f__law_ring) (D__law_drawn : DefOk P w K mg base "_law_drawn" 6 ["draws"] f__law_drawn) (D__law_draws : DefOk P w K mg base "_law_draws" 1 ["script", "many"] f__law_draws) : DefOk P w K mg base "law" 7 ["script"] f_law := by
  obtain ⟨f, fd, F, hm⟩ := T.d_law
  refine ⟨f, fd, fnD (N := N_law) (c := c_law) (k := 6) F sc_law (fun cdv A outer s H E hr => ?_), hm, F.kp, F.bindsN fun _ _ _ _ _ _ us hl => match us, hl with | [_], _ => rfl, fdAt_of F⟩
  exact (pdss_cons (pds_set (ps_set (i := 1) sc_law.nd rfl (by first | exact .inl rfl | exact .inr rfl) (pd_callD hr (D__law_draws.mono (by decide)) (pda_cons (pd_var 0 (pv 0)) (pda_cons pd_int pda_nil)))))
  (pdss_cons (pds_set (ps_set (i := 2) sc_law.nd rfl (by first | exact .inl rfl | exact .inr rfl) (pd_eq (pd_mod (pd_int' T.b_int (pda_cons (pd_ix (pd_var 1 (pv 1)) pd_int) pda_nil)) pd_int) pd_int)))
  (pdss_cons (pds_if (par_of (pdw_or (pdt_not (pdt_val (pd_callD hr (D__law_drawn.mono (by decide)) (pda_cons (pd_slice (bx := false) (pd_var 1 (pv 1)) (pdo_some pd_int) pdo_none) pda_nil)))) (pdw_or (pdt_not (pdt_val (pd_callD hr (D__law_drawn.mono (by decide)) (pda_cons (pd_slice (bx := false) (pd_var 1 (pv 1)) (pdo_some pd_int) pdo_none) pda_nil)))) (pdw_or1 (pdt_not (pdt_val (pd_callD hr (D__law_pumps.mono (by decide)) (pda_cons (pd_slice (bx := false) (pd_var 1 (pv 1)) (pdo_some pd_int) pdo_none) (pda_cons pd_bl pda_nil))))))))) (pdss_one (pds_ret pd_bl)) pdss_nil)
  (pdss_cons (pds_if (pdt_not (pdt_val (pd_callD hr (D__law_ring.mono (by decide)) (pda_cons (pd_slice (bx := false) (pd_var 1 (pv 1)) (pdo_some pd_int) pdo_none) (pda_cons (pd_add pd_int (pd_mod (pd_int' T.b_int (pda_cons (pd_ix (pd_var 1 (pv 1)) pd_int) pda_nil)) pd_int)) (pda_cons pd_bl pda_nil)))))) (pdss_one (pds_ret pd_bl)) pdss_nil)
  (pdss_one (pds_ret (pd_or (pd_not (pd_var 2 (pv 2))) (pd_one (pd_and (pd_callD hr (D__law_pumps.mono (by decide)) (pda_cons (pd_slice (bx := false) (pd_var 1 (pv 1)) (pdo_some pd_int) pdo_none) (pda_cons pd_bl pda_nil))) (pd_one (pd_callD hr (D__law_ring.mono (by decide)) (pda_cons (pd_slice (bx := false) (pd_var 1 (pv 1)) (pdo_some pd_int) pdo_none) (pda_cons pd_int (pda_cons pd_bl pda_nil))))))))))))))
theorem ok_all (T : Tx K mg) : DefOk P w K mg base "law" 7 ["script"] f_law := by
  have D_noughts : DefOk P w K mg base "noughts" 1 ["tanks"] f_noughts := ok_noughts T 
  have D_poured : DefOk P w K mg base "poured" 1 ["levels", "pours"] f_poured := ok_poured T 
  have D_moves_of : DefOk P w K mg base "moves_of" 1 ["book", "standing"] f_moves_of := ok_moves_of T 
  have D_level_course : DefOk P w K mg base "level_course" 2 ["book", "start", "levels", "play"] f_level_course := ok_level_course T D_poured D_moves_of
  have D_lesser_of : DefOk P w K mg base "lesser_of" 1 ["one", "other"] f_lesser_of := ok_lesser_of T 
  have D_needed_levels : DefOk P w K mg base "needed_levels" 3 ["book", "start", "play"] f_needed_levels := ok_needed_levels T D_noughts D_level_course D_lesser_of
  have D__law_whole : DefOk P w K mg base "_law_whole" 1 ["thing"] f__law_whole := ok__law_whole T 
  have D__law_same : DefOk P w K mg base "_law_same" 2 ["told", "due"] f__law_same := ok__law_same T D__law_whole
  have D_pour_sum : DefOk P w K mg base "pour_sum" 3 ["book", "start", "play"] f_pour_sum := ok_pour_sum T D_noughts D_level_course
  have D_is_integer : DefOk P w K mg base "is_integer" 1 ["thing"] f_is_integer := ok_is_integer T 
  have D_integer_within : DefOk P w K mg base "integer_within" 2 ["thing", "low", "high"] f_integer_within := ok_integer_within T D_is_integer
  have D_is_dry : DefOk P w K mg base "is_dry" 1 ["levels"] f_is_dry := ok_is_dry T 
  have D_check_play : DefOk P w K mg base "check_play" 3 ["book", "start", "levels", "thing"] f_check_play := ok_check_play T D_poured D_integer_within D_is_dry D_moves_of
  have D__law_course : DefOk P w K mg base "_law_course" 2 ["book", "start", "levels", "play"] f__law_course := ok__law_course T D__law_whole
  have D__law_told : DefOk P w K mg base "_law_told" 4 ["book", "start", "levels", "told"] f__law_told := ok__law_told T D_needed_levels D__law_same D_pour_sum D_level_course D_check_play D__law_course
  have D__law_least : DefOk P w K mg base "_law_least" 1 ["one", "other"] f__law_least := ok__law_least T 
  have D__law_right : DefOk P w K mg base "_law_right" 3 ["book", "start", "levels", "goal", "wanted", "told", "due"] f__law_right := ok__law_right T D__law_least D__law_course
  have D_layer_behind : DefOk P w K mg base "layer_behind" 2 ["book", "came", "layer"] f_layer_behind := ok_layer_behind T D_moves_of D_is_dry D_poured
  have D_at_least : DefOk P w K mg base "at_least" 1 ["one", "other"] f_at_least := ok_at_least T 
  have D_led_back : DefOk P w K mg base "led_back" 1 ["came", "place"] f_led_back := ok_led_back T 
  have D_searched : DefOk P w K mg base "searched" 3 ["book", "start", "levels", "goal", "wanted", "most"] f_searched := ok_searched T D_layer_behind D_at_least D_led_back
  have D_can_come : DefOk P w K mg base "can_come" 4 ["book", "start", "levels", "goal", "most"] f_can_come := ok_can_come T D_searched
  have D__law_comes : DefOk P w K mg base "_law_comes" 5 ["book", "start", "levels", "goal", "most", "due"] f__law_comes := ok__law_comes T D__law_told D__law_right D_can_come
  have D_fewest_moves : DefOk P w K mg base "fewest_moves" 4 ["book", "start", "levels", "wanted", "most"] f_fewest_moves := ok_fewest_moves T D_searched
  have D__law_wants : DefOk P w K mg base "_law_wants" 5 ["book", "start", "levels", "wanted", "most", "due"] f__law_wants := ok__law_wants T D__law_told D__law_right D_fewest_moves
  have D__law_laps : DefOk P w K mg base "_law_laps" 1 ["need", "have", "gain"] f__law_laps := ok__law_laps T 
  have D__law_pumps : DefOk P w K mg base "_law_pumps" 6 ["draws", "great"] f__law_pumps := ok__law_pumps T D__law_comes D_can_come D_fewest_moves D__law_wants D__law_laps
  have D__law_ring : DefOk P w K mg base "_law_ring" 6 ["draws", "many", "great"] f__law_ring := ok__law_ring T D__law_wants D__law_comes
  have D__law_fewest : DefOk P w K mg base "_law_fewest" 2 ["book", "start", "levels", "goal", "wanted", "most"] f__law_fewest := ok__law_fewest T D__law_least
  have D__law_book : DefOk P w K mg base "_law_book" 1 ["draws", "tanks", "many"] f__law_book := ok__law_book T 
  have D__law_drawn : DefOk P w K mg base "_law_drawn" 6 ["draws"] f__law_drawn := ok__law_drawn T D__law_fewest D__law_wants D__law_comes D__law_book
  have D__law_draws : DefOk P w K mg base "_law_draws" 1 ["script", "many"] f__law_draws := ok__law_draws T 
  have D_law : DefOk P w K mg base "law" 7 ["script"] f_law := ok_law T D__law_pumps D__law_ring D__law_drawn D__law_draws
  exact D_law
end K88

namespace K88
open PySem PySem.Spec PyProof.Rows L2 DL
def h_noughts : He.DefD := ⟨("noughts", none), "noughts", "noughts", defArgs (top 7), defBody (top 7), defScope (top 7), [], []⟩
def h_poured : He.DefD := ⟨("poured", none), "poured", "poured", defArgs (top 4), defBody (top 4), defScope (top 4), [], []⟩
def h_moves_of : He.DefD := ⟨("moves_of", none), "moves_of", "moves_of", defArgs (top 1), defBody (top 1), defScope (top 1), [], []⟩
def h_level_course : He.DefD := ⟨("level_course", none), "level_course", "level_course", defArgs (top 15), defBody (top 15), defScope (top 15), [], []⟩
def h_lesser_of : He.DefD := ⟨("lesser_of", none), "lesser_of", "lesser_of", defArgs (top 5), defBody (top 5), defScope (top 5), [], []⟩
def h_needed_levels : He.DefD := ⟨("needed_levels", none), "needed_levels", "needed_levels", defArgs (top 17), defBody (top 17), defScope (top 17), [], []⟩
def h__law_whole : He.DefD := ⟨("_law_whole", none), "_law_whole", "_law_whole", defArgs (top 30), defBody (top 30), defScope (top 30), [], []⟩
def h__law_same : He.DefD := ⟨("_law_same", none), "_law_same", "_law_same", defArgs (top 31), defBody (top 31), defScope (top 31), [], []⟩
def h_pour_sum : He.DefD := ⟨("pour_sum", none), "pour_sum", "pour_sum", defArgs (top 16), defBody (top 16), defScope (top 16), [], []⟩
def h_is_integer : He.DefD := ⟨("is_integer", none), "is_integer", "is_integer", defArgs (top 24), defBody (top 24), defScope (top 24), [], []⟩
def h_integer_within : He.DefD := ⟨("integer_within", none), "integer_within", "integer_within", defArgs (top 25), defBody (top 25), defScope (top 25), [], []⟩
def h_is_dry : He.DefD := ⟨("is_dry", none), "is_dry", "is_dry", defArgs (top 6), defBody (top 6), defScope (top 6), [], []⟩
def h_check_play : He.DefD := ⟨("check_play", none), "check_play", "check_play", defArgs (top 27), defBody (top 27), defScope (top 27), [], []⟩
def h__law_course : He.DefD := ⟨("_law_course", none), "_law_course", "_law_course", defArgs (top 34), defBody (top 34), defScope (top 34), [], []⟩
def h__law_told : He.DefD := ⟨("_law_told", none), "_law_told", "_law_told", defArgs (top 36), defBody (top 36), defScope (top 36), [], []⟩
def h__law_least : He.DefD := ⟨("_law_least", none), "_law_least", "_law_least", defArgs (top 32), defBody (top 32), defScope (top 32), [], []⟩
def h__law_right : He.DefD := ⟨("_law_right", none), "_law_right", "_law_right", defArgs (top 35), defBody (top 35), defScope (top 35), [], []⟩
def h_layer_behind : He.DefD := ⟨("layer_behind", none), "layer_behind", "layer_behind", defArgs (top 10), defBody (top 10), defScope (top 10), [], []⟩
def h_at_least : He.DefD := ⟨("at_least", none), "at_least", "at_least", defArgs (top 3), defBody (top 3), defScope (top 3), [], []⟩
def h_led_back : He.DefD := ⟨("led_back", none), "led_back", "led_back", defArgs (top 9), defBody (top 9), defScope (top 9), [], []⟩
def h_searched : He.DefD := ⟨("searched", none), "searched", "searched", defArgs (top 11), defBody (top 11), defScope (top 11), [], []⟩
def h_can_come : He.DefD := ⟨("can_come", none), "can_come", "can_come", defArgs (top 12), defBody (top 12), defScope (top 12), [], []⟩
def h__law_comes : He.DefD := ⟨("_law_comes", none), "_law_comes", "_law_comes", defArgs (top 37), defBody (top 37), defScope (top 37), [], []⟩
def h_fewest_moves : He.DefD := ⟨("fewest_moves", none), "fewest_moves", "fewest_moves", defArgs (top 13), defBody (top 13), defScope (top 13), [], []⟩
def h__law_wants : He.DefD := ⟨("_law_wants", none), "_law_wants", "_law_wants", defArgs (top 38), defBody (top 38), defScope (top 38), [], []⟩
def h__law_laps : He.DefD := ⟨("_law_laps", none), "_law_laps", "_law_laps", defArgs (top 41), defBody (top 41), defScope (top 41), [], []⟩
def h__law_pumps : He.DefD := ⟨("_law_pumps", none), "_law_pumps", "_law_pumps", defArgs (top 42), defBody (top 42), defScope (top 42), [], []⟩
def h__law_ring : He.DefD := ⟨("_law_ring", none), "_law_ring", "_law_ring", defArgs (top 43), defBody (top 43), defScope (top 43), [], []⟩
def h__law_fewest : He.DefD := ⟨("_law_fewest", none), "_law_fewest", "_law_fewest", defArgs (top 33), defBody (top 33), defScope (top 33), [], []⟩
def h__law_book : He.DefD := ⟨("_law_book", none), "_law_book", "_law_book", defArgs (top 39), defBody (top 39), defScope (top 39), [], []⟩
def h__law_drawn : He.DefD := ⟨("_law_drawn", none), "_law_drawn", "_law_drawn", defArgs (top 40), defBody (top 40), defScope (top 40), [], []⟩
def h__law_draws : He.DefD := ⟨("_law_draws", none), "_law_draws", "_law_draws", defArgs (top 29), defBody (top 29), defScope (top 29), [], []⟩
def h_law : He.DefD := ⟨("law", none), "law", "law", defArgs (top 44), defBody (top 44), defScope (top 44), [], []⟩
def hfn : List He.DefD := [h_noughts, h_poured, h_moves_of, h_level_course, h_lesser_of, h_needed_levels, h__law_whole, h__law_same, h_pour_sum, h_is_integer, h_integer_within, h_is_dry, h_check_play, h__law_course, h__law_told, h__law_least, h__law_right, h_layer_behind, h_at_least, h_led_back, h_searched, h_can_come, h__law_comes, h_fewest_moves, h__law_wants, h__law_laps, h__law_pumps, h__law_ring, h__law_fewest, h__law_book, h__law_drawn, h__law_draws, h_law]
def hfa : List He.Fa := [.glo "noughts", .glo "poured", .glo "moves_of", .glo "level_course", .glo "lesser_of", .glo "needed_levels", .glo "_law_whole", .glo "_law_same", .glo "pour_sum", .glo "is_integer", .glo "integer_within", .glo "is_dry", .glo "check_play", .glo "_law_course", .glo "_law_told", .glo "_law_least", .glo "_law_right", .glo "layer_behind", .glo "at_least", .glo "led_back", .glo "searched", .glo "can_come", .glo "_law_comes", .glo "fewest_moves", .glo "_law_wants", .glo "_law_laps", .glo "_law_pumps", .glo "_law_ring", .glo "_law_fewest", .glo "_law_book", .glo "_law_drawn", .glo "_law_draws", .glo "law", .free "len", .free "range", .free "tuple", .free "zip", .free "all", .free "any", .free "max", .free "min", .free "isinstance", .free "int", .free "abs", .free "str", .free "enumerate", .free "bool", .int "PLAY_MOST" 600]
def hnames : List PySem.Str := (["moves_of", "at_least", "poured", "lesser_of", "is_dry", "noughts", "led_back", "layer_behind", "searched", "can_come", "fewest_moves", "level_course", "pour_sum", "needed_levels", "PLAY_MOST", "TankError", "DataError", "BadPlay", "is_integer", "integer_within", "check_play", "_law_draws", "_law_whole", "_law_same", "_law_least", "_law_fewest", "_law_course", "_law_right", "_law_told", "_law_comes"] : List PySem.Str) ++ (["_law_wants", "_law_book", "_law_drawn", "_law_laps", "_law_pumps", "_law_ring"] : List PySem.Str)
abbrev hRow : PySem.W.OpenRow := PySem.W.OpenLaw.row PySem.Challenge.rw_nonerunsdry_k88_whole_reaching
abbrev hk : PySem.W.Hook := He.hookD 4 hfa hfn
def ob (s : PySem.W.SharedT) : He.AlD := He.obsDG 4 hfa hfn (HandSHeadRun.getT s)
theorem ob_eq (s : PySem.W.SharedT) : ob s = hk.obs s.abs := He.obsDG_eq (HandSHeadRun.getT_eq s)
theorem run (w : World) : HandSHeadRun.RunEq hRow (PySem.W.view hRow.prog [44]) hk ob 3000 hnames w := by
  intro os
  kernel_rfl
theorem tx {K : PySem.W.Frag} {h : Heap} {mg : Str → Option Value} (X : K.In h) (G : h.Ns mainGlobals mg) (c : He.SaysD hfa hfn K) : Tx K mg where
  b_len := He.free_ok X G (c.fact 33 (f := .free "len") rfl)
  b_range := He.free_ok X G (c.fact 34 (f := .free "range") rfl)
  b_tuple := He.free_ok X G (c.fact 35 (f := .free "tuple") rfl)
  b_zip := He.free_ok X G (c.fact 36 (f := .free "zip") rfl)
  b_all := He.free_ok X G (c.fact 37 (f := .free "all") rfl)
  b_any := He.free_ok X G (c.fact 38 (f := .free "any") rfl)
  b_max := He.free_ok X G (c.fact 39 (f := .free "max") rfl)
  b_min := He.free_ok X G (c.fact 40 (f := .free "min") rfl)
  b_isinstance := He.free_ok X G (c.fact 41 (f := .free "isinstance") rfl)
  b_int := He.free_ok X G (c.fact 42 (f := .free "int") rfl)
  b_abs := He.free_ok X G (c.fact 43 (f := .free "abs") rfl)
  b_str := He.free_ok X G (c.fact 44 (f := .free "str") rfl)
  b_enumerate := He.free_ok X G (c.fact 45 (f := .free "enumerate") rfl)
  b_bool := He.free_ok X G (c.fact 46 (f := .free "bool") rfl)
  g_PLAY_MOST := let ⟨t, e⟩ := He.int_ok X G (c.fact 47 (f := .int "PLAY_MOST" 600) rfl); ⟨_, e, ⟨t, rfl⟩⟩
  d_noughts := let ⟨fd, F⟩ := c.def_ 0 (d := h_noughts) rfl; ⟨_, fd, F, He.glo_ok X G (c.fact 0 (f := .glo "noughts") rfl)⟩
  d_poured := let ⟨fd, F⟩ := c.def_ 1 (d := h_poured) rfl; ⟨_, fd, F, He.glo_ok X G (c.fact 1 (f := .glo "poured") rfl)⟩
  d_moves_of := let ⟨fd, F⟩ := c.def_ 2 (d := h_moves_of) rfl; ⟨_, fd, F, He.glo_ok X G (c.fact 2 (f := .glo "moves_of") rfl)⟩
  d_level_course := let ⟨fd, F⟩ := c.def_ 3 (d := h_level_course) rfl; ⟨_, fd, F, He.glo_ok X G (c.fact 3 (f := .glo "level_course") rfl)⟩
  d_lesser_of := let ⟨fd, F⟩ := c.def_ 4 (d := h_lesser_of) rfl; ⟨_, fd, F, He.glo_ok X G (c.fact 4 (f := .glo "lesser_of") rfl)⟩
  d_needed_levels := let ⟨fd, F⟩ := c.def_ 5 (d := h_needed_levels) rfl; ⟨_, fd, F, He.glo_ok X G (c.fact 5 (f := .glo "needed_levels") rfl)⟩
  d__law_whole := let ⟨fd, F⟩ := c.def_ 6 (d := h__law_whole) rfl; ⟨_, fd, F, He.glo_ok X G (c.fact 6 (f := .glo "_law_whole") rfl)⟩
  d__law_same := let ⟨fd, F⟩ := c.def_ 7 (d := h__law_same) rfl; ⟨_, fd, F, He.glo_ok X G (c.fact 7 (f := .glo "_law_same") rfl)⟩
  d_pour_sum := let ⟨fd, F⟩ := c.def_ 8 (d := h_pour_sum) rfl; ⟨_, fd, F, He.glo_ok X G (c.fact 8 (f := .glo "pour_sum") rfl)⟩
  d_is_integer := let ⟨fd, F⟩ := c.def_ 9 (d := h_is_integer) rfl; ⟨_, fd, F, He.glo_ok X G (c.fact 9 (f := .glo "is_integer") rfl)⟩
  d_integer_within := let ⟨fd, F⟩ := c.def_ 10 (d := h_integer_within) rfl; ⟨_, fd, F, He.glo_ok X G (c.fact 10 (f := .glo "integer_within") rfl)⟩
  d_is_dry := let ⟨fd, F⟩ := c.def_ 11 (d := h_is_dry) rfl; ⟨_, fd, F, He.glo_ok X G (c.fact 11 (f := .glo "is_dry") rfl)⟩
  d_check_play := let ⟨fd, F⟩ := c.def_ 12 (d := h_check_play) rfl; ⟨_, fd, F, He.glo_ok X G (c.fact 12 (f := .glo "check_play") rfl)⟩
  d__law_course := let ⟨fd, F⟩ := c.def_ 13 (d := h__law_course) rfl; ⟨_, fd, F, He.glo_ok X G (c.fact 13 (f := .glo "_law_course") rfl)⟩
  d__law_told := let ⟨fd, F⟩ := c.def_ 14 (d := h__law_told) rfl; ⟨_, fd, F, He.glo_ok X G (c.fact 14 (f := .glo "_law_told") rfl)⟩
  d__law_least := let ⟨fd, F⟩ := c.def_ 15 (d := h__law_least) rfl; ⟨_, fd, F, He.glo_ok X G (c.fact 15 (f := .glo "_law_least") rfl)⟩
  d__law_right := let ⟨fd, F⟩ := c.def_ 16 (d := h__law_right) rfl; ⟨_, fd, F, He.glo_ok X G (c.fact 16 (f := .glo "_law_right") rfl)⟩
  d_layer_behind := let ⟨fd, F⟩ := c.def_ 17 (d := h_layer_behind) rfl; ⟨_, fd, F, He.glo_ok X G (c.fact 17 (f := .glo "layer_behind") rfl)⟩
  d_at_least := let ⟨fd, F⟩ := c.def_ 18 (d := h_at_least) rfl; ⟨_, fd, F, He.glo_ok X G (c.fact 18 (f := .glo "at_least") rfl)⟩
  d_led_back := let ⟨fd, F⟩ := c.def_ 19 (d := h_led_back) rfl; ⟨_, fd, F, He.glo_ok X G (c.fact 19 (f := .glo "led_back") rfl)⟩
  d_searched := let ⟨fd, F⟩ := c.def_ 20 (d := h_searched) rfl; ⟨_, fd, F, He.glo_ok X G (c.fact 20 (f := .glo "searched") rfl)⟩
  d_can_come := let ⟨fd, F⟩ := c.def_ 21 (d := h_can_come) rfl; ⟨_, fd, F, He.glo_ok X G (c.fact 21 (f := .glo "can_come") rfl)⟩
  d__law_comes := let ⟨fd, F⟩ := c.def_ 22 (d := h__law_comes) rfl; ⟨_, fd, F, He.glo_ok X G (c.fact 22 (f := .glo "_law_comes") rfl)⟩
  d_fewest_moves := let ⟨fd, F⟩ := c.def_ 23 (d := h_fewest_moves) rfl; ⟨_, fd, F, He.glo_ok X G (c.fact 23 (f := .glo "fewest_moves") rfl)⟩
  d__law_wants := let ⟨fd, F⟩ := c.def_ 24 (d := h__law_wants) rfl; ⟨_, fd, F, He.glo_ok X G (c.fact 24 (f := .glo "_law_wants") rfl)⟩
  d__law_laps := let ⟨fd, F⟩ := c.def_ 25 (d := h__law_laps) rfl; ⟨_, fd, F, He.glo_ok X G (c.fact 25 (f := .glo "_law_laps") rfl)⟩
  d__law_pumps := let ⟨fd, F⟩ := c.def_ 26 (d := h__law_pumps) rfl; ⟨_, fd, F, He.glo_ok X G (c.fact 26 (f := .glo "_law_pumps") rfl)⟩
  d__law_ring := let ⟨fd, F⟩ := c.def_ 27 (d := h__law_ring) rfl; ⟨_, fd, F, He.glo_ok X G (c.fact 27 (f := .glo "_law_ring") rfl)⟩
  d__law_fewest := let ⟨fd, F⟩ := c.def_ 28 (d := h__law_fewest) rfl; ⟨_, fd, F, He.glo_ok X G (c.fact 28 (f := .glo "_law_fewest") rfl)⟩
  d__law_book := let ⟨fd, F⟩ := c.def_ 29 (d := h__law_book) rfl; ⟨_, fd, F, He.glo_ok X G (c.fact 29 (f := .glo "_law_book") rfl)⟩
  d__law_drawn := let ⟨fd, F⟩ := c.def_ 30 (d := h__law_drawn) rfl; ⟨_, fd, F, He.glo_ok X G (c.fact 30 (f := .glo "_law_drawn") rfl)⟩
  d__law_draws := let ⟨fd, F⟩ := c.def_ 31 (d := h__law_draws) rfl; ⟨_, fd, F, He.glo_ok X G (c.fact 31 (f := .glo "_law_draws") rfl)⟩
  d_law := let ⟨fd, F⟩ := c.def_ 32 (d := h_law) rfl; ⟨_, fd, F, He.glo_ok X G (c.fact 32 (f := .glo "law") rfl)⟩
theorem law_is {P : Program} {w : World} {K : PySem.W.Frag} {h : Heap} {mg : Str → Option Value} {f : Addr} (X : K.In h) (G : h.Ns mainGlobals mg) (hfa' : mg ("law" : Str) = some (.ref f)) (c : He.SaysD hfa hfn K) :
    ∃ fd : FuncData, (∀ (s : Shared) (v : Value), BindsTo s fd ⟨[v], []⟩ [("script", v)]) ∧ ∀ base : Heap, K.In base → base.Ns mainGlobals mg → FnOk P w K mg base CX0 20 f fd ["script"] (spD P w K 1 f_law) := by
  have T := tx X G c
  have D0 : ∀ base : Heap, DefOk P w K mg base "law" 7 ["script"] f_law := fun base => ok_all T
  obtain ⟨f0, fd, F, hm⟩ := T.d_law
  cases hfa'.symm.trans hm
  refine ⟨fd, fun s v => F.bindsA (ps := ["script"]) (fun _ _ _ _ _ _ us hl => match us, hl with | [_], _ => rfl) s [v] rfl, fun base _ _ => ?_⟩
  obtain ⟨f1, fd1, h1, h2, _, _, h3⟩ := D0 base
  cases hfa'.symm.trans h2
  have e : fd = fd1 := (fdAt_of F).eq h3
  rw [e]
  exact FnOk.mono h1 (by decide)
end K88

open PySem PySem.W PySem.Calls PyProof.Rows
theorem PySem.Challenge.cw_nonerunsdry_k88_whole_reaching_holds : PySem.Challenge.rw_nonerunsdry_k88_whole_reaching.Holds := by
  w_on; o_law
  refine HandSHeadRun.head_any (r := OpenLaw.row PySem.Challenge.rw_nonerunsdry_k88_whole_reaching) (q := view (OpenLaw.row PySem.Challenge.rw_nonerunsdry_k88_whole_reaching).prog [44]) (H := K88.hk) (ob := K88.ob) (M := 3000) (loose := K88.hnames) (d := HandSHeadRun.topDef (OpenLaw.row PySem.Challenge.rw_nonerunsdry_k88_whole_reaching).prog 44) (kwd := []) K88.ob_eq
    (by kernel_rfl) (fun s => by kernel_rfl) K88.run (by kernel_rfl) (by kernel_rfl) (by kernel_rfl) (by rfl) (by first | assumption | decide +kernel) (by decide +kernel) ⟨rfl, rfl, rfl, rfl, rfl, by decide +kernel⟩ ?hw ?hc
  case hw => w_witness2
  case hc =>
    refine L2.walk_ofE (l := PySem.Challenge.rw_nonerunsdry_k88_whole_reaching) (n := 63) (k := 20) (x := "script") (CX := L2.CX0) rfl (by decide) (by kernel_rfl) ⟨rfl, by decide, by decide⟩ ?F (fun _ _ _ _ z => z)
    intro w mg fa h Y G hmg0
    obtain ⟨K, KX, c⟩ := Y
    have hmg : mg ("law" : PySem.Str) = some (.ref fa) := by
      have e : (HandSHeadRun.topDef (OpenLaw.row PySem.Challenge.rw_nonerunsdry_k88_whole_reaching).prog 44).name = ("law" : PySem.Str) := by kernel_rfl
      rw [← e]
      exact hmg0
    obtain ⟨fd, hb, hF⟩ := K88.law_is (P := (PySem.Challenge.rw_nonerunsdry_k88_whole_reaching).prog) (w := w) KX G hmg c
    exact ⟨K, fd, DL.spD (PySem.Challenge.rw_nonerunsdry_k88_whole_reaching).prog w K 1 K88.f_law, KX, hb, fun H a ns hl hO hS => DL.law_start K88.plain H a ns hl hO hS, hF⟩
