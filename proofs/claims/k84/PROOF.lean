import PyProof.Rows.All
import Wide.All
import OpenK.AllK
import Wide.FinOn
import HandS.ForMost
import HandS.Zip
import HandS.TupAny
import HandS.TupMul
import HandS.IsInst
import HandS.Style
import HandS.Flow
import HandS.Conv
import HandS.Defaults
import KE.KDictKeyed
import KE.KeyNested
import KE.DataMinMax
import KE.DatumOrd
import KE.GoesMore
import KE.GoesEnum
import KE.KDictDisplayH
import KE.KTupSum
import HandS.TupLen
import HandS.Head0
import HandS.Head1
import HandS.Head2
import HandS.HeadEnd
import HandS.HeadHook1
import HandS.HeadHook2
import KE.KStateDown
import PySem.Challenge.RW_nonerunsdry_k84_whole_orders
set_option Elab.async false
set_option linter.all false
set_option maxRecDepth 100000
set_option maxHeartbeats 0
/-! The data layer: plain data, a store of cells, and how they lie in HandS's abstract heap. -/
namespace DL
open PySem PySem.Spec PyProof.Rows L2

/-- data: lst is a list that nobody changes any more; ref a cell of the store -/
inductive D where
  | non | bl (b : Bool) | int (i : Int) | str (x : Str) | tup (xs : List D) | lst (xs : List D) | scr (xs : List D) | ref (n : Nat)
/-- what changes: a list, a dict by ints and texts, a dict by tuples; lk: while it is walked -/
inductive Cell where
  | dead | lst (xs : List D) | dK (lk : Bool) (kvs : List (Key × D)) | dN (lk : Bool) (kvs : List (D × D))
abbrev Store := List Cell
abbrev Env' := List (Option D)
/-- where the cells stand, and what is hidden (the list that a comprehension makes) -/
structure Wd where
  at_ : Nat → Addr
  hid : List Addr
instance : CoeFun Wd fun _ => Nat → Addr := ⟨Wd.at_⟩

def Owned (B : Wd) (S : Store) (a : Addr) : Prop := a ∈ B.hid ∨ ∃ k c, S[k]? = some c ∧ c ≠ Cell.dead ∧ B k = a

mutual
inductive RV (K : PySem.W.Frag) (B : Wd) (S : Store) (H : Hp) : V → D → Prop
  | non : RV K B S H .non .non
  | bl (b : Bool) : RV K B S H (.bl b) (.bl b)
  | int (i : Int) : RV K B S H (.int i) (.int i)
  | str (x : Str) : RV K B S H (.str x) (.str x)
  | tup {a xs ds} : H a = some (.tup xs) → ¬ Owned B S a → RVs K B S H xs ds → RV K B S H (.ref a) (.tup ds)
  | tupK {a xs ds} : (∀ H', SqT K H' a xs) → RVs K B S H xs ds → RV K B S H (.ref a) (.tup ds)
  | lst {a xs ds} : H a = some (.lst xs) → ¬ Owned B S a → RVs K B S H xs ds → RV K B S H (.ref a) (.lst ds)
  | lstF {a o xs ds} : H a = some (.frz o (.lst xs)) → ¬ Owned B S a → RVs K B S H xs ds → RV K B S H (.ref a) (.scr ds)
  | lstK {a xs ds} : (∀ H', SqL K H' a xs) → RVs K B S H xs ds → RV K B S H (.ref a) (.scr ds)
  | ref {k} : k < S.length → RV K B S H (.ref (B k)) (.ref k)
inductive RVs (K : PySem.W.Frag) (B : Wd) (S : Store) (H : Hp) : List V → List D → Prop
  | nil : RVs K B S H [] []
  | cons {v d vs ds} : RV K B S H v d → RVs K B S H vs ds → RVs K B S H (v :: vs) (d :: ds)
end

/-- a step: what is not owned is kept, what comes to be owned was not there -/
structure St0 (B : Wd) (S : Store) (H : Hp) (B' : Wd) (S' : Store) (H' : Hp) : Prop where
  len : S.length ≤ S'.length
  agr : ∀ k, k < S.length → B' k = B k
  oth : ∀ a o, H a = some o → ¬ Owned B S a → H' a = some o
  own : ∀ a o, H a = some o → Owned B' S' a → Owned B S a
  lks : ∀ k kvs, S[k]? = some (Cell.dN true kvs) → S'[k]? = some (Cell.dN true kvs) ∧ H' (B k) = H (B k)
structure Stp (B : Wd) (S : Store) (H : Hp) (B' : Wd) (S' : Store) (H' : Hp) : Prop extends St0 B S H B' S' H' where
  hde : B'.hid = B.hid
  hdk : ∀ a, a ∈ B.hid → H' a = H a

theorem St0.refl (B : Wd) (S : Store) (H : Hp) : St0 B S H B S H := ⟨Nat.le_refl _, fun _ _ => rfl, fun _ _ h _ => h, fun _ _ _ h => h, fun _ _ h => ⟨h, rfl⟩⟩
theorem St0.trans {B B1 B2 : Wd} {S S1 S2 : Store} {H H1 H2 : Hp} (a : St0 B S H B1 S1 H1) (b : St0 B1 S1 H1 B2 S2 H2) : St0 B S H B2 S2 H2 :=
  ⟨Nat.le_trans a.len b.len, fun k h => (b.agr k (Nat.lt_of_lt_of_le h a.len)).trans (a.agr k h),
    fun c o h n => b.oth c o (a.oth c o h n) fun w => n (a.own c o h w),
    fun c o h w => Classical.byContradiction fun n => n (a.own c o h (b.own c o (a.oth c o h n) w)),
    fun k kvs h => by
      obtain ⟨h1, h2⟩ := a.lks k kvs h
      obtain ⟨h3, h4⟩ := b.lks k kvs h1
      rw [a.agr k (List.getElem?_eq_some_iff.mp h).1] at h4
      exact ⟨h3, h4.trans h2⟩⟩
theorem Stp.refl (B : Wd) (S : Store) (H : Hp) : Stp B S H B S H := ⟨St0.refl B S H, rfl, fun _ _ => rfl⟩
theorem Stp.trans {B B1 B2 : Wd} {S S1 S2 : Store} {H H1 H2 : Hp} (a : Stp B S H B1 S1 H1) (b : Stp B1 S1 H1 B2 S2 H2) : Stp B S H B2 S2 H2 :=
  ⟨a.toSt0.trans b.toSt0, b.hde.trans a.hde, fun c h => (b.hdk c (by rw [a.hde]; exact h)).trans (a.hdk c h)⟩

section
variable {K : PySem.W.Frag} {B B' : Wd} {S S' : Store} {H H' : Hp}
mutual
theorem RV.mono0 (s : St0 B S H B' S' H') : ∀ (d : D) (v : V), RV K B S H v d → RV K B' S' H' v d
  | .non, _, h => by cases h; exact .non
  | .bl b, _, h => by cases h; exact .bl b
  | .int i, _, h => by cases h; exact .int i
  | .str x, _, h => by cases h; exact .str x
  | .tup ds, _, h => by
    cases h with
    | tup e n r => exact .tup (s.oth _ _ e n) (fun w => n (s.own _ _ e w)) (RVs.mono0 s ds _ r)
    | tupK e r => exact .tupK e (RVs.mono0 s ds _ r)
  | .lst ds, _, h => by
    cases h with
    | lst e n r => exact .lst (s.oth _ _ e n) (fun w => n (s.own _ _ e w)) (RVs.mono0 s ds _ r)
  | .scr ds, _, h => by
    cases h with
    | lstF e n r => exact .lstF (s.oth _ _ e n) (fun w => n (s.own _ _ e w)) (RVs.mono0 s ds _ r)
    | lstK e r => exact .lstK e (RVs.mono0 s ds _ r)
  | .ref k, _, h => by
    cases h with
    | ref lt =>
      rw [← s.agr k lt]
      exact .ref (Nat.lt_of_lt_of_le lt s.len)
theorem RVs.mono0 (s : St0 B S H B' S' H') : ∀ (ds : List D) (vs : List V), RVs K B S H vs ds → RVs K B' S' H' vs ds
  | [], _, h => by cases h; exact .nil
  | d :: ds, _, h => by
    cases h with
    | cons h1 h2 => exact .cons (RV.mono0 s d _ h1) (RVs.mono0 s ds _ h2)
end
theorem RV.mono (s : Stp B S H B' S' H') (d : D) (v : V) (h : RV K B S H v d) : RV K B' S' H' v d := RV.mono0 s.toSt0 d v h
theorem RVs.mono (s : Stp B S H B' S' H') (d : List D) (v : List V) (h : RVs K B S H v d) : RVs K B' S' H' v d := RVs.mono0 s.toSt0 d v h
theorem RVs.length : ∀ {ds : List D} {vs : List V}, RVs K B S H vs ds → vs.length = ds.length
  | [], _, h => by cases h; rfl
  | d :: ds, _, h => by
    cases h with
    | cons h1 h2 => simp [RVs.length h2]
theorem RVs.get : ∀ {ds : List D} {vs : List V} {i : Nat} {d : D}, RVs K B S H vs ds → ds[i]? = some d → ∃ v, vs[i]? = some v ∧ RV K B S H v d
  | [], _, _, _, _, e => by simp at e
  | d :: ds, _, 0, _, .cons h1 h2, e => by simp at e; subst e; exact ⟨_, rfl, h1⟩
  | d :: ds, _, i + 1, _, .cons h1 h2, e => by
    obtain ⟨v, h3, h4⟩ := RVs.get (i := i) h2 (by simpa using e)
    exact ⟨v, by simpa using h3, h4⟩
theorem RVs.getV : ∀ {ds : List D} {vs : List V} {i : Nat} {v : V}, RVs K B S H vs ds → vs[i]? = some v → ∃ d, ds[i]? = some d ∧ RV K B S H v d
  | [], _, i, v, .nil, e => by simp at e
  | d :: ds, _, 0, _, .cons h1 h2, e => by simp at e; subst e; exact ⟨_, rfl, h1⟩
  | d :: ds, _, i + 1, _, .cons h1 h2, e => by
    obtain ⟨v, h3, h4⟩ := RVs.getV (i := i) h2 (by simpa using e)
    exact ⟨v, by simpa using h3, h4⟩
theorem RVs.append : ∀ {ds es : List D} {vs ws : List V}, RVs K B S H vs ds → RVs K B S H ws es → RVs K B S H (vs ++ ws) (ds ++ es)
  | [], _, _, _, .nil, h => h
  | d :: ds, _, _, _, .cons h1 h2, h => .cons h1 (RVs.append h2 h)
theorem RVs.take : ∀ {ds : List D} {vs : List V} (n : Nat), RVs K B S H vs ds → RVs K B S H (vs.take n) (ds.take n)
  | _, _, 0, _ => .nil
  | [], _, n + 1, .nil => .nil
  | d :: ds, _, n + 1, .cons h1 h2 => .cons h1 (RVs.take n h2)
theorem RVs.drop : ∀ {ds : List D} {vs : List V} (n : Nat), RVs K B S H vs ds → RVs K B S H (vs.drop n) (ds.drop n)
  | _, _, 0, h => h
  | [], _, n + 1, .nil => .nil
  | d :: ds, _, n + 1, .cons h1 h2 => RVs.drop n h2
theorem RVs.set {v : V} {d : D} (r : RV K B S H v d) : ∀ {ds : List D} {vs : List V} (i : Nat), RVs K B S H vs ds → RVs K B S H (vs.set i v) (ds.set i d)
  | [], _, _, .nil => .nil
  | _ :: _, _, 0, .cons _ h2 => .cons r h2
  | _ :: _, _, i + 1, .cons h1 h2 => .cons h1 (RVs.set r i h2)
theorem RVs.reverse : ∀ {ds : List D} {vs : List V}, RVs K B S H vs ds → RVs K B S H vs.reverse ds.reverse
  | [], _, .nil => .nil
  | d :: ds, _, .cons h1 h2 => by
    simp only [List.reverse_cons]
    exact RVs.append (RVs.reverse h2) (.cons h1 .nil)
theorem RVs.dropLast : ∀ {ds : List D} {vs : List V}, RVs K B S H vs ds → RVs K B S H vs.dropLast ds.dropLast := fun {ds vs} h => by
  rw [List.dropLast_eq_take, List.dropLast_eq_take, h.length]
  exact h.take _
theorem RVs.erase : ∀ {ds : List D} {vs : List V} (i : Nat), RVs K B S H vs ds → RVs K B S H (vs.eraseIdx i) (ds.eraseIdx i)
  | [], _, _, .nil => .nil
  | _ :: _, _, 0, .cons _ h2 => h2
  | _ :: _, _, i + 1, .cons h1 h2 => .cons h1 (RVs.erase i h2)
theorem RVs.rep {vs : List V} {ds : List D} (h : RVs K B S H vs ds) : ∀ k : Nat, RVs K B S H (List.replicate k vs).flatten (List.replicate k ds).flatten
  | 0 => .nil
  | k + 1 => by
    simp only [List.replicate_succ, List.flatten_cons]
    exact h.append (RVs.rep h k)
end

-- keys of tuples, as the library's keys
mutual
def keyD : D → NestedKey
  | .non => .none
  | .bl b => .num (if b then 1 else 0)
  | .int i => .num i
  | .str x => .text x
  | .tup ds => .tup (keyDs ds)
  | .lst _ => .none
  | .scr _ => .none
  | .ref _ => .none
def keyDs : List D → List NestedKey
  | [] => []
  | d :: ds => keyD d :: keyDs ds
end
-- what may be a key: no lists, no cells, no bools
mutual
def okKey : D → Bool
  | .non => true
  | .bl _ => false
  | .int _ => true
  | .str _ => true
  | .tup ds => okKeys ds
  | .lst _ => false
  | .scr _ => false
  | .ref _ => false
def okKeys : List D → Bool
  | [] => true
  | d :: ds => okKey d && okKeys ds
end
/-- a tuple that may be a key of a dict of tuples -/
def okTup : D → Bool
  | .tup ds => okKeys ds && decide ((keyD (.tup ds)).depth ≤ 8)
  | _ => false
def dLook (kvs : List (D × D)) (k : D) : Option D := (kvs.find? fun p => decide (keyD p.1 = keyD k)).map (·.2)
def dPut (kvs : List (D × D)) (k v : D) : List (D × D) := if (dLook kvs k).isSome then kvs.map (fun p => if keyD p.1 = keyD k then (p.1, v) else p) else kvs ++ [(k, v)]

/-- the entries of a dict of tuples, with where the keys stand -/
def NRel (K : PySem.W.Frag) (B : Wd) (S : Store) (H : Hp) (kvs : List (D × D)) (xs : List (NestedKey × Addr × Value)) : Prop :=
  Paired (fun (p : D × D) (x : NestedKey × Addr × Value) => okTup p.1 = true ∧ x.1 = keyD p.1 ∧ RV K B S H (.ref x.2.1) p.1 ∧ ∃ v, RelV v x.2.2 ∧ RV K B S H v p.2) kvs xs
def KRel (K : PySem.W.Frag) (B : Wd) (S : Store) (H : Hp) (kxs : List (Key × V)) (kvs : List (Key × D)) : Prop :=
  Paired (fun (p : Key × V) (q : Key × D) => p.1 = q.1 ∧ RV K B S H p.2 q.2) kxs kvs
/-- the object of a dict of tuples: its entries -/
def NObj (P : Program) (w : World) (o : Obj) (xs : List (NestedKey × Addr × Value)) : Prop :=
  o.ExactDict ∧ (∃ es ep, o.data = .dict es ep ∧ es.toList = xs.map (entryOfKey (nestedKind P w))) ∧ (xs.map (·.1)).Nodup
abbrev isO (a : Addr) (o : Obj) : HO := .ext fun h => h.get? a = some o

/-- what a cell holds -/
def CRl (P : Program) (w : World) (K : PySem.W.Frag) (B : Wd) (S : Store) (H : Hp) (a : Addr) : Cell → Prop
  | .dead => True
  | .lst ds => ∃ xs, H a = some (.lst xs) ∧ RVs K B S H xs ds
  | .dK lk kvs => ∃ kxs, KRel K B S H kxs kvs ∧ (if lk = true then ∃ o, H a = some (.frz o (.dK kxs)) else H a = some (.dK kxs))
  | .dN _ kvs => ∃ o xs, H a = some (isO a o) ∧ (a == sysModules) = false ∧ kvs.length ≤ sizeLine ∧ NObj P w o xs ∧ NRel K B S H kvs xs

structure RS (P : Program) (w : World) (K : PySem.W.Frag) (B : Wd) (S : Store) (H : Hp) : Prop where
  inj : ∀ i j ci cj, S[i]? = some ci → S[j]? = some cj → ci ≠ Cell.dead → cj ≠ Cell.dead → B i = B j → i = j
  cel : ∀ k c, S[k]? = some c → CRl P w K B S H (B k) c
  hdt : ∀ a, a ∈ B.hid → ∃ u, H a = some u
  hdn : ∀ a k c, a ∈ B.hid → S[k]? = some c → c ≠ Cell.dead → B k ≠ a

/-- the slots -/
structure RE (K : PySem.W.Frag) (B : Wd) (S : Store) (H : Hp) (σ : L2.St) (ρ : Env') : Prop where
  len : σ.length = ρ.length
  at_ : ∀ (i : Nat) (d : D), ρ[i]? = some (some d) → ∃ v : V, σ[i]? = some (some v) ∧ RV K B S H v d

section
variable {P : Program} {w : World} {K : PySem.W.Frag} {B B' : Wd} {S S' : Store} {H H' : Hp} {σ : L2.St} {ρ : Env'}
theorem paired_map {α β : Type} {F G : α → β → Prop} (h : ∀ a b, F a b → G a b) : ∀ {l : List α} {m : List β}, Paired F l m → Paired G l m
  | _, _, .nil => .nil
  | _, _, .cons r t => .cons (h _ _ r) (paired_map h t)
theorem KRel.mono {kxs : List (Key × V)} {kvs : List (Key × D)} (s : St0 B S H B' S' H') (r : KRel K B S H kxs kvs) : KRel K B' S' H' kxs kvs :=
  paired_map (fun _ _ h => ⟨h.1, RV.mono0 s _ _ h.2⟩) r
theorem NRel.mono {kvs : List (D × D)} {xs : List (NestedKey × Addr × Value)} (s : St0 B S H B' S' H') (r : NRel K B S H kvs xs) : NRel K B' S' H' kvs xs :=
  paired_map (fun _ _ h => ⟨h.1, h.2.1, RV.mono0 s _ _ h.2.2.1, let ⟨v, e, q⟩ := h.2.2.2; ⟨v, e, RV.mono0 s _ _ q⟩⟩) r
theorem CRl.mono {a : Addr} {c : Cell} (s : St0 B S H B' S' H') (e : H' a = H a) (r : CRl P w K B S H a c) : CRl P w K B' S' H' a c := by
  cases c with
  | dead => trivial
  | lst ds =>
    obtain ⟨xs, h, q⟩ := r
    exact ⟨xs, e.trans h, RVs.mono0 s _ _ q⟩
  | dK lk kvs =>
    obtain ⟨kxs, q, h⟩ := r
    refine ⟨kxs, q.mono s, ?_⟩
    cases lk with
    | true =>
      simp only [if_true] at h ⊢
      obtain ⟨o, h⟩ := h
      exact ⟨o, e.trans h⟩
    | false =>
      simp only [Bool.false_eq_true, if_false] at h ⊢
      exact e.trans h
  | dN lk kvs =>
    obtain ⟨o, xs, h, z, l, n, q⟩ := r
    exact ⟨o, xs, e.trans h, z, l, n, q.mono s⟩
theorem RE.mono0 (s : St0 B S H B' S' H') (r : RE K B S H σ ρ) : RE K B' S' H' σ ρ :=
  ⟨r.len, fun i d e => let ⟨v, h, q⟩ := r.at_ i d e; ⟨v, h, RV.mono0 s _ _ q⟩⟩
theorem RE.mono (s : Stp B S H B' S' H') (r : RE K B S H σ ρ) : RE K B' S' H' σ ρ := r.mono0 s.toSt0
/-- an owned address is tracked -/
theorem RS.there (r : RS P w K B S H) {a : Addr} (o : Owned B S a) : ∃ u, H a = some u := by
  rcases o with o | ⟨k, c, e, n, rfl⟩
  · exact r.hdt a o
  · have q := r.cel k c e
    cases c with
    | dead => exact absurd rfl n
    | lst ds => obtain ⟨xs, h, _⟩ := q; exact ⟨_, h⟩
    | dK lk kvs =>
      obtain ⟨kxs, _, h⟩ := q
      cases lk with
      | true => simp only [if_true] at h; obtain ⟨o, h⟩ := h; exact ⟨_, h⟩
      | false => simp only [Bool.false_eq_true, if_false] at h; exact ⟨_, h⟩
    | dN lk kvs => obtain ⟨o, xs, h, _⟩ := q; exact ⟨_, h⟩
theorem RS.fresh (r : RS P w K B S H) {a : Addr} (n : H a = none) : ¬ Owned B S a := fun o => by
  obtain ⟨u, h⟩ := r.there o
  rw [n] at h; cases h
/-- a new object, not owned -/
theorem Stp.new {a : Addr} {o : HO} (r : RS P w K B S H) (n : H a = none) : Stp B S H B S (upd H a o) :=
  ⟨⟨Nat.le_refl _, fun _ _ => rfl, fun b u h _ => by rw [upd_ne (ne_of_none h n)]; exact h, fun _ _ _ h => h, fun k kvs h => let ⟨_, hu⟩ := r.there (.inr ⟨k, _, h, by simp, rfl⟩); ⟨h, upd_ne (ne_of_none hu n)⟩⟩, rfl, fun b hb => upd_ne (let ⟨_, h⟩ := r.hdt b hb; ne_of_none h n)⟩
theorem RS.new {a : Addr} {o : HO} (r : RS P w K B S H) (n : H a = none) : RS P w K B S (upd H a o) := by
  refine ⟨r.inj, fun k c e => ?_, fun b hb => ?_, r.hdn⟩
  · cases c with
    | dead => trivial
    | _ =>
      refine (r.cel k _ e).mono (Stp.new r n).toSt0 ?_
      obtain ⟨u, h⟩ := r.there (.inr ⟨k, _, e, by simp, rfl⟩)
      rw [upd_ne (ne_of_none h n)]
  · obtain ⟨u, h⟩ := r.hdt b hb
    exact ⟨u, by rw [upd_ne (ne_of_none h n)]; exact h⟩
theorem RV.newTup {a : Addr} {xs : List V} {ds : List D} (r : RS P w K B S H) (n : H a = none) (q : RVs K B S H xs ds) : RV K B S (upd H a (.tup xs)) (.ref a) (.tup ds) :=
  .tup upd_same (r.fresh n) (RVs.mono (Stp.new r n) _ _ q)
theorem RV.newLst {a : Addr} {xs : List V} {ds : List D} (r : RS P w K B S H) (n : H a = none) (q : RVs K B S H xs ds) : RV K B S (upd H a (.lst xs)) (.ref a) (.lst ds) :=
  .lst upd_same (r.fresh n) (RVs.mono (Stp.new r n) _ _ q)
/-- a cell more -/
abbrev addB (B : Wd) (n : Nat) (a : Addr) : Wd := ⟨fun k => if k = n then a else B k, B.hid⟩
theorem addB_lt {k n : Nat} {a : Addr} (h : k < n) : addB B n a k = B k := by
  show (if k = n then a else B k) = B k
  rw [if_neg (Nat.ne_of_lt h)]
theorem addB_self {n : Nat} {a : Addr} : addB B n a n = a := by
  show (if n = n then a else B n) = a
  rw [if_pos rfl]
theorem at_add {k : Nat} {c d : Cell} (e : (S ++ [c])[k]? = some d) : (k < S.length ∧ S[k]? = some d) ∨ (k = S.length ∧ d = c) := by
  rw [List.getElem?_append] at e
  split at e
  · rename_i hl; exact .inl ⟨hl, e⟩
  · rename_i hl
    by_cases hk : k = S.length
    · subst hk; simp at e; exact .inr ⟨rfl, e.symm⟩
    · have : k - S.length ≠ 0 := by omega
      obtain ⟨m, hm⟩ := Nat.exists_eq_succ_of_ne_zero this
      rw [hm] at e; simp at e
theorem owned_add {a b : Addr} {c : Cell} : Owned (addB B S.length a) (S ++ [c]) b → b = a ∨ Owned B S b := by
  rintro (h | ⟨k, d, e, n, h⟩)
  · exact .inr (.inl h)
  · rcases at_add e with ⟨lk, e⟩ | ⟨ek, _⟩
    · rw [addB_lt lk] at h
      exact .inr (.inr ⟨k, d, e, n, h⟩)
    · rw [ek, addB_self] at h
      exact .inl h.symm
theorem Stp.add {a : Addr} {o : HO} {c : Cell} (r : RS P w K B S H) (n : H a = none) : Stp B S H (addB B S.length a) (S ++ [c]) (upd H a o) := by
  refine ⟨⟨by simp, fun k hk => addB_lt hk, fun b u h _ => by rw [upd_ne (ne_of_none h n)]; exact h, fun b u h w => ?_, fun k kvs h => let ⟨_, hu⟩ := r.there (.inr ⟨k, _, h, by simp, rfl⟩); ⟨by rw [List.getElem?_append_left (List.getElem?_eq_some_iff.mp h).1]; exact h, upd_ne (ne_of_none hu n)⟩⟩, rfl, fun b hb => upd_ne (let ⟨_, h⟩ := r.hdt b hb; ne_of_none h n)⟩
  rcases owned_add w with e | e
  · subst e; rw [n] at h; cases h
  · exact e
theorem RS.add {a : Addr} {o : HO} {c : Cell} (r : RS P w K B S H) (n : H a = none) (q : CRl P w K (addB B S.length a) (S ++ [c]) (upd H a o) a c) : RS P w K (addB B S.length a) (S ++ [c]) (upd H a o) := by
  refine ⟨fun i j ci cj ei ej ni nj e => ?_, fun k d e => ?_, fun b hb => ?_, fun b k d hb e nd => ?_⟩
  · rcases at_add ei with ⟨li, hi⟩ | ⟨li, hi⟩ <;> rcases at_add ej with ⟨lj, hj⟩ | ⟨lj, hj⟩
    · rw [addB_lt li, addB_lt lj] at e
      exact r.inj i j ci cj hi hj ni nj e
    · subst lj
      rw [addB_lt li, addB_self] at e
      obtain ⟨u, h⟩ := r.there (.inr ⟨i, ci, hi, ni, e⟩)
      rw [n] at h; cases h
    · subst li
      rw [addB_lt lj, addB_self] at e
      obtain ⟨u, h⟩ := r.there (.inr ⟨j, cj, hj, nj, e.symm⟩)
      rw [n] at h; cases h
    · rw [li, lj]
  · rcases at_add e with ⟨li, hi⟩ | ⟨li, hi⟩
    · rw [addB_lt li]
      cases d with
      | dead => trivial
      | _ =>
        refine (r.cel k _ hi).mono (Stp.add r n).toSt0 ?_
        obtain ⟨u, h⟩ := r.there (.inr ⟨k, _, hi, by simp, rfl⟩)
        rw [upd_ne (ne_of_none h n)]
    · subst li; subst hi
      rw [addB_self]
      exact q
  · obtain ⟨u, h⟩ := r.hdt b hb
    exact ⟨u, by rw [upd_ne (ne_of_none h n)]; exact h⟩
  · rcases at_add e with ⟨li, hi⟩ | ⟨li, hi⟩
    · rw [addB_lt li]
      exact r.hdn b k d hb hi nd
    · subst li
      rw [addB_self]
      rintro rfl
      obtain ⟨u, h⟩ := r.hdt _ hb
      rw [n] at h; cases h
/-- a cell changed -/
theorem owned_set {k : Nat} {c d : Cell} (e : S[k]? = some d) (nd : d ≠ Cell.dead) {a : Addr} (h : Owned B (S.set k c) a) : Owned B S a := by
  rcases h with h | ⟨i, u, ei, ni, hi⟩
  · exact .inl h
  · by_cases hk : i = k
    · subst hk; exact .inr ⟨i, d, e, nd, hi⟩
    · rw [List.getElem?_set_ne (Ne.symm hk)] at ei
      exact .inr ⟨i, u, ei, ni, hi⟩
theorem Stp.set {k : Nat} {c d : Cell} {o : HO} (r : RS P w K B S H) (e : S[k]? = some d) (nd : d ≠ Cell.dead) (nl : ∀ kvs, d ≠ Cell.dN true kvs := by intro kvs z; cases z) : Stp B S H B (S.set k c) (upd H (B k) o) :=
  ⟨⟨by simp, fun _ _ => rfl, fun b u h n => by
    rw [upd_ne]
    · exact h
    · rintro rfl; exact n (.inr ⟨k, d, e, nd, rfl⟩), fun b u _ w => owned_set e nd w, fun j kvs h => by
      have hj : j ≠ k := by
        rintro rfl
        rw [e] at h
        exact nl kvs (Option.some.inj h)
      refine ⟨by rw [List.getElem?_set_ne (Ne.symm hj)]; exact h, upd_ne fun z => ?_⟩
      exact hj (r.inj j k _ d h e (by simp) nd z)⟩, rfl, fun b hb => upd_ne (Ne.symm (r.hdn b k d hb e nd))⟩
theorem RS.set {k : Nat} {c d : Cell} {o : HO} (r : RS P w K B S H) (e : S[k]? = some d) (nd : d ≠ Cell.dead) (q : CRl P w K B (S.set k c) (upd H (B k) o) (B k) c) (nl : ∀ kvs, d ≠ Cell.dN true kvs := by intro kvs z; cases z) : RS P w K B (S.set k c) (upd H (B k) o) := by
  have f : ∀ {i : Nat} {ci : Cell}, (S.set k c)[i]? = some ci → ci ≠ Cell.dead → ∃ ci', S[i]? = some ci' ∧ ci' ≠ Cell.dead := fun {i ci} h n => by
    by_cases hk : i = k
    · subst hk; exact ⟨d, e, nd⟩
    · rw [List.getElem?_set_ne (Ne.symm hk)] at h; exact ⟨ci, h, n⟩
  refine ⟨fun i j ci cj ei ej ni nj eq => ?_, fun i u ei => ?_, fun b hb => ?_, fun b i u hb ei ni => ?_⟩
  · obtain ⟨ci', hi, ni'⟩ := f ei ni
    obtain ⟨cj', hj, nj'⟩ := f ej nj
    exact r.inj i j ci' cj' hi hj ni' nj' eq
  · by_cases hk : i = k
    · subst hk
      have hl : i < S.length := (List.getElem?_eq_some_iff.mp e).1
      rw [List.getElem?_set_self hl] at ei
      cases ei
      exact q
    · rw [List.getElem?_set_ne (Ne.symm hk)] at ei
      cases u with
      | dead => trivial
      | _ =>
        refine (r.cel i _ ei).mono (Stp.set r e nd nl).toSt0 ?_
        rw [upd_ne]
        intro z
        exact hk (r.inj i k _ d ei e (by simp) nd z)
  · obtain ⟨u, h⟩ := r.hdt b hb
    exact ⟨u, by rw [upd_ne (Ne.symm (r.hdn b k d hb e nd))]; exact h⟩
  · obtain ⟨ci', hi, ni'⟩ := f ei ni
    exact r.hdn b i ci' hb hi ni'
/-- a cell dies, its list is read alone from then on -/
theorem at_die {k i : Nat} {ci : Cell} (h : (S.set k .dead)[i]? = some ci) (n : ci ≠ Cell.dead) : S[i]? = some ci ∧ i ≠ k := by
  by_cases hk : i = k
  · subst hk
    rw [List.getElem?_set] at h
    simp only [if_true] at h
    split at h
    · cases h; exact absurd rfl n
    · cases h
  · rw [List.getElem?_set_ne (Ne.symm hk)] at h; exact ⟨h, hk⟩
theorem Stp.die {k : Nat} {d : Cell} (e : S[k]? = some d) (nl : ∀ kvs, d ≠ Cell.dN true kvs := by intro kvs z; cases z) : Stp B S H B (S.set k .dead) H :=
  ⟨⟨by simp, fun _ _ => rfl, fun _ _ h _ => h, fun b u _ o => by
    rcases o with o | ⟨i, c, ei, ni, hi⟩
    · exact .inl o
    · exact .inr ⟨i, c, (at_die ei ni).1, ni, hi⟩, fun j kvs h => by
      have hj : j ≠ k := by
        rintro rfl
        rw [e] at h
        exact nl kvs (Option.some.inj h)
      exact ⟨by rw [List.getElem?_set_ne (Ne.symm hj)]; exact h, rfl⟩⟩, rfl, fun _ _ => rfl⟩
theorem RS.die {k : Nat} {d : Cell} (r : RS P w K B S H) (e : S[k]? = some d) (nl : ∀ kvs, d ≠ Cell.dN true kvs := by intro kvs z; cases z) : RS P w K B (S.set k .dead) H := by
  refine ⟨fun i j ci cj ei ej ni nj eq => r.inj i j ci cj (at_die ei ni).1 (at_die ej nj).1 ni nj eq, fun i u ei => ?_, r.hdt, fun b i u hb ei ni => r.hdn b i u hb (at_die ei ni).1 ni⟩
  cases u with
  | dead => trivial
  | _ => exact (r.cel i _ (at_die ei (by simp)).1).mono (Stp.die e nl).toSt0 rfl
theorem RV.died {k : Nat} {ds : List D} (r : RS P w K B S H) (e : S[k]? = some (.lst ds)) : RV K B (S.set k .dead) H (.ref (B k)) (.lst ds) := by
  obtain ⟨xs, h, q⟩ := r.cel k _ e
  refine .lst h (fun o => ?_) (RVs.mono (Stp.die e) _ _ q)
  rcases o with o | ⟨i, c, ei, ni, hi⟩
  · exact r.hdn _ k _ o e (by simp) rfl
  · obtain ⟨ei, hk⟩ := at_die ei ni
    exact hk (r.inj i k _ _ ei e ni (by simp) hi)
/-- what is hidden from now on: a new address -/
abbrev hideB (B : Wd) (a : Addr) : Wd := ⟨B.at_, a :: B.hid⟩
theorem St0.hide {a : Addr} {o : HO} (r : RS P w K B S H) (n : H a = none) : St0 B S H (hideB B a) S (upd H a o) :=
  ⟨Nat.le_refl _, fun _ _ => rfl, fun b u h _ => by rw [upd_ne (ne_of_none h n)]; exact h, fun b u h w => by
    rcases w with w | w
    · rcases List.mem_cons.mp w with e | w
      · subst e; rw [n] at h; cases h
      · exact .inl w
    · exact .inr w, fun k kvs h => let ⟨_, hu⟩ := r.there (.inr ⟨k, _, h, by simp, rfl⟩); ⟨h, upd_ne (ne_of_none hu n)⟩⟩
theorem RS.hide {a : Addr} {o : HO} (r : RS P w K B S H) (n : H a = none) : RS P w K (hideB B a) S (upd H a o) := by
  refine ⟨r.inj, fun k c e => ?_, fun b hb => ?_, fun b k c hb e nc => ?_⟩
  · cases c with
    | dead => trivial
    | _ =>
      refine (r.cel k _ e).mono (St0.hide r n) ?_
      obtain ⟨u, h⟩ := r.there (.inr ⟨k, _, e, by simp, rfl⟩)
      rw [upd_ne (ne_of_none h n)]
  · rcases List.mem_cons.mp hb with e | hb
    · subst e; exact ⟨o, upd_same⟩
    · obtain ⟨u, h⟩ := r.hdt b hb
      exact ⟨u, by rw [upd_ne (ne_of_none h n)]; exact h⟩
  · rcases List.mem_cons.mp hb with z | hb
    · subst z
      intro z
      obtain ⟨u, h⟩ := r.there (.inr ⟨k, c, e, nc, z⟩)
      rw [n] at h; cases h
    · exact r.hdn b k c hb e nc
/-- the hidden one is changed -/
theorem St0.hid {a : Addr} {o : HO} (r : RS P w K B S H) (h : a ∈ B.hid) : St0 B S H B S (upd H a o) :=
  ⟨Nat.le_refl _, fun _ _ => rfl, fun b u e n => by rw [upd_ne (by intro z; subst z; exact n (.inl h))]; exact e, fun _ _ _ w => w, fun k kvs e => ⟨e, upd_ne (r.hdn a k _ h e (by simp))⟩⟩
theorem RS.hid {a : Addr} {o : HO} (r : RS P w K B S H) (h : a ∈ B.hid) : RS P w K B S (upd H a o) := by
  refine ⟨r.inj, fun k c e => ?_, fun b hb => ?_, r.hdn⟩
  · cases c with
    | dead => trivial
    | _ =>
      refine (r.cel k _ e).mono (St0.hid r h) ?_
      rw [upd_ne (r.hdn a k _ h e (by simp))]
  · by_cases z : b = a
    · subst z; exact ⟨o, upd_same⟩
    · obtain ⟨u, q⟩ := r.hdt b hb
      exact ⟨u, by rw [upd_ne z]; exact q⟩
end
end DL

/-! Judgements of the data layer, and its first rules. -/
namespace DL
open PySem PySem.Spec PyProof.Rows L2

abbrev DE := Env' → Store → Option (D × Store)
abbrev DT := Env' → Store → Option (Bool × Store)
abbrev DA := Env' → Store → Option (List D × Store)
inductive Fl where
  | nx (ρ : Env') (S : Store) | rt (d : D) (S : Store) | bk (ρ : Env') (S : Store) | ct (ρ : Env') (S : Store)
abbrev DS := Env' → Store → Option Fl

section
variable (P : Program) (w : World) (K : PySem.W.Frag)
def tD (c : DE) : TE := fun σ H Q => ∃ B ρ S d S', RS P w K B S H ∧ RE K B S H σ ρ ∧ c ρ S = some (d, S') ∧
  ∀ B' v H', Stp B S H B' S' H' → RS P w K B' S' H' → RV K B' S' H' v d → Q v H'
def tT (c : DT) : TT := fun σ H Q => ∃ B ρ S d S', RS P w K B S H ∧ RE K B S H σ ρ ∧ c ρ S = some (d, S') ∧
  ∀ B' H', Stp B S H B' S' H' → RS P w K B' S' H' → Q d H'
def tAs (c : DA) : TA := fun σ H Q => ∃ B ρ S ds S', RS P w K B S H ∧ RE K B S H σ ρ ∧ c ρ S = some (ds, S') ∧
  ∀ B' vs H', Stp B S H B' S' H' → RS P w K B' S' H' → RVs K B' S' H' vs ds → Q vs H'
/-- what is wanted behind a statement, from the state at its beginning on -/
def endF (E : Ends) (B : Wd) (S : Store) (H : Hp) : Fl → Prop
  | .nx ρ' S' => ∀ B' σ' H', Stp B S H B' S' H' → RS P w K B' S' H' → RE K B' S' H' σ' ρ' → E.nx σ' H'
  | .rt d S' => ∀ B' v H', Stp B S H B' S' H' → RS P w K B' S' H' → RV K B' S' H' v d → E.rt v H'
  | .bk ρ' S' => ∀ B' σ' H', Stp B S H B' S' H' → RS P w K B' S' H' → RE K B' S' H' σ' ρ' → E.bk σ' H'
  | .ct ρ' S' => ∀ B' σ' H', Stp B S H B' S' H' → RS P w K B' S' H' → RE K B' S' H' σ' ρ' → E.ct σ' H'
def tS (c : DS) : TS := fun E σ H => ∃ B ρ S f, RS P w K B S H ∧ RE K B S H σ ρ ∧ c ρ S = some f ∧ endF P w K E B S H f
end
abbrev PD (X : Cx) (e : Expr) (c : DE) : Prop := PE X e (tD X.prog X.w X.K c)
abbrev PDT (X : Cx) (e : Expr) (c : DT) : Prop := PT X e (tT X.prog X.w X.K c)
abbrev PDW (X : Cx) (e : Expr) (c : DT) : Prop := PW X e (tT X.prog X.w X.K c)
abbrev PDA (X : Cx) (es : List Expr) (c : DA) : Prop := PA X es (tAs X.prog X.w X.K c)
abbrev PDS (X : Cx) (s : Stmt) (c : DS) : Prop := PS X s (tS X.prog X.w X.K c)
abbrev PDSs (X : Cx) (s : List Stmt) (c : DS) : Prop := PSs X s (tS X.prog X.w X.K c)

section
variable {X : Cx}
theorem pe_imp {e : Expr} {t t' : TE} (h : PE X e t) (i : ∀ σ H Q, t' σ H Q → t σ H Q) : PE X e t' := ⟨fun pins s σ H Q I hw => h.run pins s σ H Q I (i σ H Q hw)⟩
theorem pt_imp {e : Expr} {t t' : TT} (h : PT X e t) (i : ∀ σ H Q, t' σ H Q → t σ H Q) : PT X e t' := ⟨fun pins s σ H Q I hw => h.run pins s σ H Q I (i σ H Q hw)⟩
theorem pw_imp {e : Expr} {t t' : TT} (h : PW X e t) (i : ∀ σ H Q, t' σ H Q → t σ H Q) : PW X e t' := ⟨fun wh pins s σ H Q I hw => h.run wh pins s σ H Q I (i σ H Q hw)⟩
theorem pa_imp {e : List Expr} {t t' : TA} (h : PA X e t) (i : ∀ σ H Q, t' σ H Q → t σ H Q) : PA X e t' := ⟨fun pos pins s σ H Q I hw => h.run pos pins s σ H Q I (i σ H Q hw)⟩
theorem ps_imp {s : Stmt} {t t' : TS} (h : PS X s t) (i : ∀ D σ H, t' D σ H → t D σ H) : PS X s t' := ⟨fun pins st σ H D I hw => h.run pins st σ H D I (i D σ H hw)⟩
theorem pss_imp {s : List Stmt} {t t' : TS} (h : PSs X s t) (i : ∀ D σ H, t' D σ H → t D σ H) : PSs X s t' := ⟨fun pins st σ H D I hw => h.run pins st σ H D I (i D σ H hw)⟩
end

/-! ### expressions -/
def cVar (i : Nat) : DE := fun ρ S => match ρ[i]? with
  | some (some d) => some (d, S)
  | _ => none
def cC (d : D) : DE := fun _ S => some (d, S)
def cBin (f : D → D → Store → Option (D × Store)) (a b : DE) : DE := fun ρ S => match a ρ S with
  | some (x, S1) => (match b ρ S1 with
    | some (y, S2) => f x y S2
    | none => none)
  | none => none
def cUn (f : D → Store → Option (D × Store)) (a : DE) : DE := fun ρ S => match a ρ S with
  | some (x, S1) => f x S1
  | none => none
def cNil : DA := fun _ S => some ([], S)
def cCons (a : DE) (r : DA) : DA := fun ρ S => match a ρ S with
  | some (x, S1) => (match r ρ S1 with
    | some (xs, S2) => some (x :: xs, S2)
    | none => none)
  | none => none
/-- what a call of values does -/
def cApp (f : List D → Store → Option (D × Store)) (a : DA) : DE := fun ρ S => match a ρ S with
  | some (xs, S1) => f xs S1
  | none => none

section
variable {X : Cx} {a b c : Expr} {ca cb cc : DE} {pos : Pos}
theorem pd_var (i : Nat) {x : Str} (h : PE X (.Name x pos) (tVar i)) : PD X (.Name x pos) (cVar i) := pe_imp h fun σ H Q ⟨B, ρ, S, d, S', hs, he, e, k⟩ => by
  unfold cVar at e
  split at e
  · rename_i d' hd
    cases e
    obtain ⟨v, h1, h2⟩ := he.at_ i _ hd
    exact ⟨v, h1, k B v H (Stp.refl ..) hs h2⟩
  · cases e
theorem pd_const {v : V} {d : D} (h : PE X a (tC v)) (r : ∀ B S H, RV X.K B S H v d) : PD X a (cC d) := pe_imp h fun σ H Q ⟨B, ρ, S, d, S', hs, he, e, k⟩ => by
  cases e
  exact k B v H (Stp.refl ..) hs (r _ _ _)
theorem pd_int {i : Int} {j : Nat} : PD X (.Constant (.int i) j pos) (cC (.int i)) := pd_const pe_int fun _ _ _ => .int i
theorem pd_bl {i : Bool} {j : Nat} : PD X (.Constant (.bool i) j pos) (cC (.bl i)) := pd_const pe_bl fun _ _ _ => .bl i
theorem pd_non {j : Nat} : PD X (.Constant .none j pos) (cC .non) := pd_const pe_non fun _ _ _ => .non
theorem pd_str {i : Str} {j : Nat} : PD X (.Constant (.str i) j pos) (cC (.str i)) := pd_const pe_str fun _ _ _ => .str i

/-- the meaning of a value-level reading by plain data -/
def Ok2 (P : Program) (w : World) (K : PySem.W.Frag) (r : R2) (f : D → D → Store → Option (D × Store)) : Prop :=
  ∀ B S H x y dx dy d S' (Q : VK), RS P w K B S H → RV K B S H x dx → RV K B S H y dy → f dx dy S = some (d, S') →
    (∀ B' v H', Stp B S H B' S' H' → RS P w K B' S' H' → RV K B' S' H' v d → Q v H') → r x y H Q
def Ok1 (P : Program) (w : World) (K : PySem.W.Frag) (r : V → Hp → VK → Prop) (f : D → Store → Option (D × Store)) : Prop :=
  ∀ B S H x dx d S' (Q : VK), RS P w K B S H → RV K B S H x dx → f dx S = some (d, S') →
    (∀ B' v H', Stp B S H B' S' H' → RS P w K B' S' H' → RV K B' S' H' v d → Q v H') → r x H Q
def OkN (P : Program) (w : World) (K : PySem.W.Frag) (r : List V → Hp → VK → Prop) (f : List D → Store → Option (D × Store)) : Prop :=
  ∀ B S H xs dxs d S' (Q : VK), RS P w K B S H → RVs K B S H xs dxs → f dxs S = some (d, S') →
    (∀ B' v H', Stp B S H B' S' H' → RS P w K B' S' H' → RV K B' S' H' v d → Q v H') → r xs H Q

/-- two expressions, one behind the other -/
theorem tD_bin {P : Program} {w : World} {K : PySem.W.Frag} {ca cb : DE} {f : D → D → Store → Option (D × Store)} {σ : L2.St} {H : Hp} {Q : VK} {R : V → V → Hp → Prop}
    (h : tD P w K (cBin f ca cb) σ H Q)
    (q : ∀ B S H x y dx dy d S', RS P w K B S H → RV K B S H x dx → RV K B S H y dy → f dx dy S = some (d, S') → (∀ B' v H', Stp B S H B' S' H' → RS P w K B' S' H' → RV K B' S' H' v d → Q v H') → R x y H) :
    tD P w K ca σ H fun x H1 => tD P w K cb σ H1 fun y H2 => R x y H2 := by
  obtain ⟨B, ρ, S, d, S', hs, he, e, k⟩ := h
  unfold cBin at e
  split at e
  · rename_i x S1 e1
    split at e
    · rename_i y S2 e2
      refine ⟨B, ρ, S, x, S1, hs, he, e1, fun B1 v1 H1 st1 hs1 r1 => ?_⟩
      refine ⟨B1, ρ, S1, y, S2, hs1, he.mono st1, e2, fun B2 v2 H2 st2 hs2 r2 => ?_⟩
      exact q B2 S2 H2 v1 v2 x y d S' hs2 (RV.mono st2 _ _ r1) r2 e fun B' v H' st hs' r => k B' v H' ((st1.trans st2).trans st) hs' r
    · cases e
  · cases e
theorem tD_un {P : Program} {w : World} {K : PySem.W.Frag} {ca : DE} {f : D → Store → Option (D × Store)} {σ : L2.St} {H : Hp} {Q : VK} {R : V → Hp → Prop}
    (h : tD P w K (cUn f ca) σ H Q)
    (q : ∀ B S H x dx d S', RS P w K B S H → RV K B S H x dx → f dx S = some (d, S') → (∀ B' v H', Stp B S H B' S' H' → RS P w K B' S' H' → RV K B' S' H' v d → Q v H') → R x H) :
    tD P w K ca σ H R := by
  obtain ⟨B, ρ, S, d, S', hs, he, e, k⟩ := h
  unfold cUn at e
  split at e
  · rename_i x S1 e1
    exact ⟨B, ρ, S, x, S1, hs, he, e1, fun B1 v1 H1 st1 hs1 r1 => q B1 S1 H1 v1 x d S' hs1 r1 e fun B' v H' st hs' r => k B' v H' (st1.trans st) hs' r⟩
  · cases e
theorem tD_app {P : Program} {w : World} {K : PySem.W.Frag} {ca : DA} {f : List D → Store → Option (D × Store)} {σ : L2.St} {H : Hp} {Q : VK} {R : List V → Hp → Prop}
    (h : tD P w K (cApp f ca) σ H Q)
    (q : ∀ B S H xs dxs d S', RS P w K B S H → RVs K B S H xs dxs → f dxs S = some (d, S') → (∀ B' v H', Stp B S H B' S' H' → RS P w K B' S' H' → RV K B' S' H' v d → Q v H') → R xs H) :
    tAs P w K ca σ H R := by
  obtain ⟨B, ρ, S, d, S', hs, he, e, k⟩ := h
  unfold cApp at e
  split at e
  · rename_i x S1 e1
    exact ⟨B, ρ, S, x, S1, hs, he, e1, fun B1 v1 H1 st1 hs1 r1 => q B1 S1 H1 v1 x d S' hs1 r1 e fun B' v H' st hs' r => k B' v H' (st1.trans st) hs' r⟩
  · cases e
theorem pda_nil : PDA X [] cNil := pa_imp pa_nil fun σ H Q ⟨B, ρ, S, d, S', hs, he, e, k⟩ => by
  cases e
  exact k B [] H (Stp.refl ..) hs .nil
theorem pda_cons {es : List Expr} {cr : DA} (ha : PD X a ca) (hr : PDA X es cr) (hs : starEach (a :: es) X.env = (false, eval a X.env) :: starEach es X.env := by rfl) : PDA X (a :: es) (cCons ca cr) :=
  pa_imp (pa_cons ha hr hs) fun σ H Q ⟨B, ρ, S, d, S', hs, he, e, k⟩ => by
    unfold cCons at e
    split at e
    · rename_i x S1 e1
      split at e
      · rename_i xs S2 e2
        cases e
        exact ⟨B, ρ, S, x, S1, hs, he, e1, fun B1 v1 H1 st1 hs1 r1 => ⟨B1, ρ, S1, xs, _, hs1, he.mono st1, e2, fun B2 v2 H2 st2 hs2 r2 => k B2 _ H2 (st1.trans st2) hs2 (.cons (RV.mono st2 _ _ r1) r2)⟩⟩
      · cases e
    · cases e
theorem pd_op {op : Operator} {r : R2} {f : D → D → Store → Option (D × Store)} (ho : OpR X (binaryOp op) r) (hf : Ok2 X.prog X.w X.K r f) (ha : PD X a ca) (hb : PD X b cb) : PD X (.BinOp a op b pos) (cBin f ca cb) :=
  pe_imp (pe_op ho ha hb) fun σ H Q h => tD_bin h fun B S H x y dx dy d S' hs rx ry e k => hf B S H x y dx dy d S' Q hs rx ry e k
theorem pd_un {op : UnaryOp} {r : V → Hp → VK → Prop} {f : D → Store → Option (D × Store)} (ho : UnR X (unaryOp op) r) (hf : Ok1 X.prog X.w X.K r f) (ha : PD X a ca) : PD X (.UnaryOp op a pos) (cUn f ca) :=
  pe_imp (pe_un ho ha) fun σ H Q h => tD_un h fun B S H x dx d S' hs rx e k => hf B S H x dx d S' Q hs rx e k
theorem pd_cmp {op : CmpOp} {r : R2} {f : D → D → Store → Option (D × Store)} (ho : OpR X (compareOp op) r) (hf : Ok2 X.prog X.w X.K r f) (hm : behindInMarks op b = false) (ha : PD X a ca) (hb : PD X b cb) : PD X (.Compare a [op] [b] pos) (cBin f ca cb) :=
  pe_imp (pe_cmpR ho ha hb hm) fun σ H Q h => tD_bin h fun B S H x y dx dy d S' hs rx ry e k => hf B S H x y dx dy d S' Q hs rx ry e k
/-- a built-in function, a built-in type, called -/
theorem pd_callB {x : Str} {id : String} {p : Pos} {e : Expr} {es : List Expr} {r : List V → Hp → VK → Prop} {f : List D → Store → Option (D × Store)} {cs : DA} (hc : CallR X (.builtin id) r) (hf : OkN X.prog X.w X.K r f) (hg : Gl X x) (hm : X.mg x = none) (hv : bootBuiltins x = some (.builtin id))
    (hn : x ≠ "__name__") (hdb : (x == ("__debug__" : Str)) = false) (ha : PDA X (e :: es) cs)
    (he : starEach (e :: es) X.env = (false, eval e X.env) :: starEach es X.env := by rfl) (hpl : (backTo pos (starEach es X.env)).any (·.1) = false := by rfl) : PD X (.Call (.Name x p) (e :: es) [] pos) (cApp f cs) :=
  pe_imp (pe_callB hc hg hm hv ha hn hdb he hpl) fun σ H Q h => tD_app h fun B S H xs dxs d S' hs rx e k => hf B S H xs dxs d S' Q hs rx e k
theorem pd_callTy {x : Str} {T : String} {p : Pos} {e : Expr} {es : List Expr} {r : List V → Hp → VK → Prop} {f : List D → Store → Option (D × Store)} {cs : DA} (hc : CallR X (.type T) r) (hf : OkN X.prog X.w X.K r f) (hg : Gl X x) (hm : X.mg x = none) (hv : bootBuiltins x = some (.type T))
    (hn : x ≠ "__name__") (hdb : (x == ("__debug__" : Str)) = false) (ha : PDA X (e :: es) cs)
    (he : starEach (e :: es) X.env = (false, eval e X.env) :: starEach es X.env := by rfl) (hpl : (backTo pos (starEach es X.env)).any (·.1) = false := by rfl) : PD X (.Call (.Name x p) (e :: es) [] pos) (cApp f cs) :=
  pe_imp (pe_callTy hc hg hm hv ha hn hdb he hpl) fun σ H Q h => tD_app h fun B S H xs dxs d S' hs rx e k => hf B S H xs dxs d S' Q hs rx e k

/-! ### displays -/
def mkTup : List D → Store → Option (D × Store) := fun xs S => if xs.length ≤ sizeLine then some (.tup xs, S) else none
def mkLst : List D → Store → Option (D × Store) := fun xs S => if xs.length ≤ sizeLine then some (.lst xs, S) else none
def mkBox : List D → Store → Option (D × Store) := fun xs S => if xs.length ≤ sizeLine then some (.ref S.length, S ++ [.lst xs]) else none
theorem ok_mkTup {P : Program} {w : World} {K : PySem.W.Frag} : OkN P w K (fun xs H1 Q => xs.length ≤ sizeLine ∧ ∀ p, H1 p = none → Q (.ref p) (upd H1 p (.tup xs))) mkTup := fun B S H xs dxs d S' Q hs rx e k => by
  unfold mkTup at e
  split at e
  · rename_i hl
    cases e
    exact ⟨by rw [rx.length]; exact hl, fun p hp => k B _ _ (Stp.new hs hp) (hs.new hp) (RV.newTup hs hp rx)⟩
  · cases e
theorem ok_mkLst {P : Program} {w : World} {K : PySem.W.Frag} : OkN P w K (fun xs H1 Q => xs.length ≤ sizeLine ∧ ∀ p, H1 p = none → Q (.ref p) (upd H1 p (.lst xs))) mkLst := fun B S H xs dxs d S' Q hs rx e k => by
  unfold mkLst at e
  split at e
  · rename_i hl
    cases e
    exact ⟨by rw [rx.length]; exact hl, fun p hp => k B _ _ (Stp.new hs hp) (hs.new hp) (RV.newLst hs hp rx)⟩
  · cases e
theorem box_new {P : Program} {w : World} {K : PySem.W.Frag} {B : Wd} {S : Store} {H : Hp} {xs : List V} {ds : List D} {p : Addr} (hs : RS P w K B S H) (rx : RVs K B S H xs ds) (hp : H p = none) :
    Stp B S H (addB B S.length p) (S ++ [.lst ds]) (upd H p (.lst xs)) ∧ RS P w K (addB B S.length p) (S ++ [.lst ds]) (upd H p (.lst xs)) ∧ RV K (addB B S.length p) (S ++ [.lst ds]) (upd H p (.lst xs)) (.ref p) (.ref S.length) := by
  have st : Stp B S H (addB B S.length p) (S ++ [.lst ds]) (upd H p (.lst xs)) := Stp.add hs hp
  refine ⟨st, hs.add hp ⟨xs, upd_same, RVs.mono st _ _ rx⟩, ?_⟩
  have e : (V.ref p) = V.ref (addB B S.length p S.length) := by rw [addB_self]
  rw [e]
  exact .ref (by simp)
theorem ok_mkBox {P : Program} {w : World} {K : PySem.W.Frag} : OkN P w K (fun xs H1 Q => xs.length ≤ sizeLine ∧ ∀ p, H1 p = none → Q (.ref p) (upd H1 p (.lst xs))) mkBox := fun B S H xs dxs d S' Q hs rx e k => by
  unfold mkBox at e
  split at e
  · rename_i hl
    cases e
    refine ⟨by rw [rx.length]; exact hl, fun p hp => ?_⟩
    obtain ⟨h1, h2, h3⟩ := box_new hs rx hp
    exact k _ _ _ h1 h2 h3
  · cases e
theorem pd_tup {es : List Expr} {cs : DA} {x1 : Nat} (ha : PDA X es cs) : PD X (.Tuple es x1 pos) (cApp mkTup cs) :=
  pe_imp (pe_tup ha) fun σ H Q h => tD_app h fun B S H xs dxs d S' hs rx e k => ok_mkTup B S H xs dxs d S' Q hs rx e k
theorem pd_lst {es : List Expr} {cs : DA} (ha : PDA X es cs) : PD X (.List es pos) (cApp mkLst cs) :=
  pe_imp (pe_lst ha) fun σ H Q h => tD_app h fun B S H xs dxs d S' hs rx e k => ok_mkLst B S H xs dxs d S' Q hs rx e k
theorem pd_lstB {es : List Expr} {cs : DA} (ha : PDA X es cs) : PD X (.List es pos) (cApp mkBox cs) :=
  pe_imp (pe_lst ha) fun σ H Q h => tD_app h fun B S H xs dxs d S' hs rx e k => ok_mkBox B S H xs dxs d S' Q hs rx e k

/-! ### tests -/
def cB (a : DE) : DT := fun ρ S => match a ρ S with
  | some (.bl b, S1) => some (b, S1)
  | _ => none
def cAnd (a b : DT) : DT := fun ρ S => match a ρ S with
  | some (true, S1) => b ρ S1
  | r => r
def cOr (a b : DT) : DT := fun ρ S => match a ρ S with
  | some (false, S1) => b ρ S1
  | r => r
def cNot (a : DT) : DT := fun ρ S => match a ρ S with
  | some (b, S1) => some (!b, S1)
  | none => none
/-- a test's outcome as a value -/
def cV (a : DT) : DE := fun ρ S => match a ρ S with
  | some (b, S1) => some (.bl b, S1)
  | none => none
theorem tD_cB {P : Program} {w : World} {K : PySem.W.Frag} {ca : DE} {σ : L2.St} {H : Hp} {Q : Bool → Hp → Prop} (h : tT P w K (cB ca) σ H Q) : tB (tD P w K ca) σ H Q := by
  obtain ⟨B, ρ, S, d, S', hs, he, e, k⟩ := h
  unfold cB at e
  split at e
  · rename_i b S1 e1
    cases e
    exact ⟨B, ρ, S, _, _, hs, he, e1, fun B' v H' st hs' r => by cases r; exact ⟨_, rfl, k B' H' st hs'⟩⟩
  · cases e
theorem pdt_val (h : PD X a ca) (he : ∀ whole, isTrue a X.env whole = (do let v ← whole; standAt a.pos; holding [v] (truthy v)) := by intro _; rfl) : PDT X a (cB ca) := pt_imp (pt_val h he) fun σ H Q h => tD_cB h
theorem pdt_cmp {op : CmpOp} {r : R2} {f : D → D → Store → Option (D × Store)} (ho : OpR X (compareOp op) r) (hf : Ok2 X.prog X.w X.K r f) (hm : behindInMarks op b = false) (ha : PD X a ca) (hb : PD X b cb) : PDT X (.Compare a [op] [b] pos) (cB (cBin f ca cb)) :=
  pt_imp (pt_cmpR ho ha hb hm) fun σ H Q h => by
    have h' := tD_cB h
    exact tD_bin (R := fun x y H2 => r x y H2 fun x H' => ∃ k, x = .bl k ∧ Q k H') h' fun B S H x y dx dy d S' hs rx ry e k => hf B S H x y dx dy d S' _ hs rx ry e k
variable {ta tb : DT} {rest : List Expr}
theorem pdw_and1 (ha : PDT X a ta) : PDW X (.BoolOp .And [a] pos) ta := pw_and1 ha
theorem pdw_or1 (ha : PDT X a ta) : PDW X (.BoolOp .Or [a] pos) ta := pw_or1 ha
theorem pdw_and (ha : PDT X a ta) (hb : PDW X (.BoolOp .And (b :: rest) pos) tb) : PDW X (.BoolOp .And (a :: b :: rest) pos) (cAnd ta tb) := pw_imp (pw_and ha hb) fun σ H Q ⟨B, ρ, S, d, S', hs, he, e, k⟩ => by
  unfold cAnd at e
  split at e
  · rename_i S1 e1
    refine ⟨B, ρ, S, _, _, hs, he, e1, fun B' H' st hs' => ?_⟩
    refine iteT ?_
    exact ⟨B', ρ, S1, d, S', hs', he.mono st, e, fun B2 H2 st2 hs2 => k B2 H2 (st.trans st2) hs2⟩
  · rename_i hn
    refine ⟨B, ρ, S, _, _, hs, he, e, fun B' H' st hs' => ?_⟩
    cases d with
    | true => exact absurd e (hn _)
    | false => refine iteF ?_; exact k B' H' st hs'
theorem pdw_or (ha : PDT X a ta) (hb : PDW X (.BoolOp .Or (b :: rest) pos) tb) : PDW X (.BoolOp .Or (a :: b :: rest) pos) (cOr ta tb) := pw_imp (pw_or ha hb) fun σ H Q ⟨B, ρ, S, d, S', hs, he, e, k⟩ => by
  unfold cOr at e
  split at e
  · rename_i S1 e1
    refine ⟨B, ρ, S, _, _, hs, he, e1, fun B' H' st hs' => ?_⟩
    refine iteF ?_
    exact ⟨B', ρ, S1, d, S', hs', he.mono st, e, fun B2 H2 st2 hs2 => k B2 H2 (st.trans st2) hs2⟩
  · rename_i hn
    refine ⟨B, ρ, S, _, _, hs, he, e, fun B' H' st hs' => ?_⟩
    cases d with
    | false => exact absurd e (hn _)
    | true => refine iteT ?_; exact k B' H' st hs'
theorem pdt_not (ha : PDT X a ta) : PDT X (.UnaryOp .Not a pos) (cNot ta) := pt_imp (pt_not ha) fun σ H Q ⟨B, ρ, S, d, S', hs, he, e, k⟩ => by
  unfold cNot at e
  split at e
  · rename_i b S1 e1
    cases e
    exact ⟨B, ρ, S, _, _, hs, he, e1, fun B' H' st hs' => k B' H' st hs'⟩
  · cases e
/-- and, or, not of truth values, as values -/
def cAndV (a b : DE) : DE := fun ρ S => match a ρ S with
  | some (.bl true, S1) => b ρ S1
  | some (.bl false, S1) => some (.bl false, S1)
  | _ => none
def cOrV (a b : DE) : DE := fun ρ S => match a ρ S with
  | some (.bl false, S1) => b ρ S1
  | some (.bl true, S1) => some (.bl true, S1)
  | _ => none
def cNotV (a : DE) : DE := fun ρ S => match a ρ S with
  | some (.bl b, S1) => some (.bl (!b), S1)
  | _ => none
theorem pd_one {op : BoolOp} (h : PD X a ca) : PD X (.BoolOp op [a] pos) ca := pe_one h
theorem pd_and (ha : PD X a ca) (hb : PD X (.BoolOp .And (b :: rest) pos) cb) : PD X (.BoolOp .And (a :: b :: rest) pos) (cAndV ca cb) := pe_imp (pe_and ha hb) fun σ H Q ⟨B, ρ, S, d, S', hs, he, e, k⟩ => by
  unfold cAndV at e
  split at e
  · rename_i S1 e1
    refine ⟨B, ρ, S, _, _, hs, he, e1, fun B' v H' st hs' r => ?_⟩
    cases r
    refine ⟨_, rfl, ?_⟩
    refine iteT ?_
    exact ⟨B', ρ, S1, d, S', hs', he.mono st, e, fun B2 v2 H2 st2 hs2 r2 => k B2 v2 H2 (st.trans st2) hs2 r2⟩
  · rename_i S1 e1
    cases e
    refine ⟨B, ρ, S, _, _, hs, he, e1, fun B' v H' st hs' r => ?_⟩
    cases r
    refine ⟨_, rfl, ?_⟩
    refine iteF ?_
    exact k B' _ H' st hs' (.bl _)
  · cases e
theorem pd_or (ha : PD X a ca) (hb : PD X (.BoolOp .Or (b :: rest) pos) cb) : PD X (.BoolOp .Or (a :: b :: rest) pos) (cOrV ca cb) := pe_imp (pe_or ha hb) fun σ H Q ⟨B, ρ, S, d, S', hs, he, e, k⟩ => by
  unfold cOrV at e
  split at e
  · rename_i S1 e1
    refine ⟨B, ρ, S, _, _, hs, he, e1, fun B' v H' st hs' r => ?_⟩
    cases r
    refine ⟨_, rfl, ?_⟩
    refine iteF ?_
    exact ⟨B', ρ, S1, d, S', hs', he.mono st, e, fun B2 v2 H2 st2 hs2 r2 => k B2 v2 H2 (st.trans st2) hs2 r2⟩
  · rename_i S1 e1
    cases e
    refine ⟨B, ρ, S, _, _, hs, he, e1, fun B' v H' st hs' r => ?_⟩
    cases r
    refine ⟨_, rfl, ?_⟩
    refine iteT ?_
    exact k B' _ H' st hs' (.bl _)
  · cases e
theorem pd_not (ha : PD X a ca) : PD X (.UnaryOp .Not a pos) (cNotV ca) := pe_imp (pe_not ha) fun σ H Q ⟨B, ρ, S, d, S', hs, he, e, k⟩ => by
  unfold cNotV at e
  split at e
  · rename_i b S1 e1
    cases e
    refine ⟨B, ρ, S, _, _, hs, he, e1, fun B' v H' st hs' r => ?_⟩
    cases r
    exact ⟨_, rfl, k B' _ H' st hs' (.bl _)⟩
  · cases e
def cIf (t : DT) (a b : DE) : DE := fun ρ S => match t ρ S with
  | some (true, S1) => a ρ S1
  | some (false, S1) => b ρ S1
  | none => none
theorem pd_if (ht : PDT X c ta) (ha : PD X a ca) (hb : PD X b cb) : PD X (.IfExp c a b pos) (cIf ta ca cb) := pe_imp (pe_ifExp ht ha hb) fun σ H Q ⟨B, ρ, S, d, S', hs, he, e, k⟩ => by
  unfold cIf at e
  split at e
  · rename_i S1 e1
    refine ⟨B, ρ, S, _, _, hs, he, e1, fun B' H' st hs' => ?_⟩
    refine iteT ?_
    exact ⟨B', ρ, S1, d, S', hs', he.mono st, e, fun B2 v2 H2 st2 hs2 r2 => k B2 v2 H2 (st.trans st2) hs2 r2⟩
  · rename_i S1 e1
    refine ⟨B, ρ, S, _, _, hs, he, e1, fun B' H' st hs' => ?_⟩
    refine iteF ?_
    exact ⟨B', ρ, S1, d, S', hs', he.mono st, e, fun B2 v2 H2 st2 hs2 r2 => k B2 v2 H2 (st.trans st2) hs2 r2⟩
  · cases e
end
end DL

/-! Statements, targets, loops, defs. -/
namespace DL
open PySem PySem.Spec PyProof.Rows L2

/-! ### targets -/
abbrev DG := D → Env' → Option Env'
def gN (i : Nat) : DG := fun d ρ => some (ρ.set i (some d))
def gsNil : List D → Env' → Option Env'
  | [], ρ => some ρ
  | _, _ => none
def gsCons (g : DG) (r : List D → Env' → Option Env') : List D → Env' → Option Env'
  | d :: ds, ρ => (match g d ρ with
    | some ρ' => r ds ρ'
    | none => none)
  | [], _ => none
def gT (n : Nat) (g : List D → Env' → Option Env') : DG := fun d ρ => match d with
  | .tup ds => if ds.length = n then g ds ρ else none
  | _ => none
section
variable (P : Program) (w : World) (K : PySem.W.Frag)
/-- a target's reading; vs: the slots that it may store -/
def tG (vs : List Nat) (g : DG) : TG := fun v σ H Q => ∃ B ρ S d ρ', RS P w K B S H ∧ RE K B S H σ ρ ∧ RV K B S H v d ∧ g d ρ = some ρ' ∧
  ∀ σ', RE K B S H σ' ρ' → (∀ j, j ∉ vs → σ'[j]? = σ[j]?) → σ'.length = σ.length → Q σ' H
def tGs (vs : List Nat) (g : List D → Env' → Option Env') : TGs := fun us σ H Q => ∃ B ρ S ds ρ', RS P w K B S H ∧ RE K B S H σ ρ ∧ RVs K B S H us ds ∧ g ds ρ = some ρ' ∧
  ∀ σ', RE K B S H σ' ρ' → (∀ j, j ∉ vs → σ'[j]? = σ[j]?) → σ'.length = σ.length → Q σ' H
end
theorem pg_imp {X : Cx} {e : Expr} {t t' : TG} (h : PG X e t) (i : ∀ v σ H Q, t' v σ H Q → t v σ H Q) : PG X e t' := ⟨fun pins s σ H v u Q I r hw => h.run pins s σ H v u Q I r (i v σ H Q hw)⟩
theorem pgs_imp {X : Cx} {e : List Expr} {t t' : TGs} (h : PGs X e t) (i : ∀ v σ H Q, t' v σ H Q → t v σ H Q) : PGs X e t' := ⟨fun pins s σ H v u Q I r hw => h.run pins s σ H v u Q I r (i v σ H Q hw)⟩
abbrev PDG (X : Cx) (e : Expr) (vs : List Nat) (g : DG) : Prop := PG X e (tG X.prog X.w X.K vs g)
abbrev PDGs (X : Cx) (e : List Expr) (vs : List Nat) (g : List D → Env' → Option Env') : Prop := PGs X e (tGs X.prog X.w X.K vs g)
theorem RE.set {K : PySem.W.Frag} {B : Wd} {S : Store} {H : Hp} {σ : L2.St} {ρ : Env'} {v : V} {d : D} (r : RE K B S H σ ρ) (q : RV K B S H v d) (i : Nat) : RE K B S H (σ.set i (some v)) (ρ.set i (some d)) := by
  refine ⟨by simp [r.len], fun j u e => ?_⟩
  by_cases hj : j = i
  · subst hj
    have hl : j < ρ.length := by
      have := (List.getElem?_eq_some_iff.mp e).1
      simpa using this
    rw [List.getElem?_set_self hl] at e
    cases e
    exact ⟨v, List.getElem?_set_self (by rw [r.len]; exact hl), q⟩
  · rw [List.getElem?_set_ne (Ne.symm hj)] at e ⊢
    exact r.at_ j u e
theorem RV.tupI {K : PySem.W.Frag} {B : Wd} {S : Store} {H : Hp} {v : V} {ds : List D} (h : RV K B S H v (.tup ds)) : ∃ a xs, v = .ref a ∧ SqT K H a xs ∧ RVs K B S H xs ds := by
  cases h with
  | tup e n r => exact ⟨_, _, rfl, SqT.of e, r⟩
  | tupK e r => exact ⟨_, _, rfl, e H, r⟩
section
variable {X : Cx} {e : Expr} {es : List Expr} {pos : Pos}
theorem pdg_name {i : Nat} {x : Str} (h : PG X (.Name x pos) (gName i)) : PDG X (.Name x pos) [i] (gN i) := pg_imp h fun v σ H Q ⟨B, ρ, S, d, ρ', hs, he, r, eg, k⟩ => by
  cases eg
  exact k _ (he.set r i) (fun j hj => List.getElem?_set_ne (by simp at hj; exact fun z => hj z.symm)) (by simp)
theorem pdgs_nil : PDGs X [] [] gsNil := pgs_imp pgs_nil fun us σ H Q ⟨B, ρ, S, ds, ρ', hs, he, r, eg, k⟩ => by
  cases r with
  | nil =>
    cases eg
    exact ⟨rfl, k σ he (fun _ _ => rfl) rfl⟩
  | cons _ _ => cases eg
theorem pdgs_cons {vs ws : List Nat} {g : DG} {gr : List D → Env' → Option Env'} (h1 : PDG X e vs g) (h2 : PDGs X es ws gr) (hs : (assignEach (e :: es) X.env).map (·.2) = assign e X.env :: (assignEach es X.env).map (·.2) := by rfl) : PDGs X (e :: es) (vs ++ ws) (gsCons g gr) :=
  pgs_imp (pgs_cons h1 h2 hs) fun us σ H Q ⟨B, ρ, S, ds, ρ', hs, he, r, eg, k⟩ => by
    cases r with
    | nil => cases eg
    | cons r1 r2 =>
      unfold gsCons at eg
      simp only at eg
      split at eg
      · rename_i ρ1 e1
        refine ⟨_, _, rfl, B, ρ, S, _, ρ1, hs, he, r1, e1, fun σ1 he1 o1 l1 => ?_⟩
        refine ⟨B, ρ1, S, _, ρ', hs, he1, r2, eg, fun σ2 he2 o2 l2 => k σ2 he2 (fun j hj => ?_) (l2.trans l1)⟩
        simp only [List.mem_append, not_or] at hj
        rw [o2 j hj.2, o1 j hj.1]
      · cases eg
theorem pdg_tup {vs : List Nat} {k n : Nat} {g : List D → Env' → Option Env'} (hc : X.calm = true) (h : PDGs X es vs g) (hn : (assignEach es X.env).length = n := by rfl) (hst : (assignEach es X.env).findIdx? (·.1) = none := by rfl) : PDG X (.Tuple es k pos) vs (gT n g) :=
  pg_imp (pg_tup hc h hn hst) fun v σ H Q ⟨B, ρ, S, d, ρ', hs, he, r, eg, k⟩ => by
    unfold gT at eg
    split at eg
    · split at eg
      · rename_i hl
        obtain ⟨a, xs, rfl, hq, r2⟩ := r.tupI
        exact ⟨a, xs, rfl, hq, r2.length.trans hl, B, ρ, S, _, ρ', hs, he, r2, eg, k⟩
      · cases eg
    · cases eg
end

/-! ### statements -/
def sNext : DS := fun ρ S => some (.nx ρ S)
def sSeq (a b : DS) : DS := fun ρ S => match a ρ S with
  | some (.nx ρ' S') => b ρ' S'
  | r => r
def sSet (g : DG) (a : DE) : DS := fun ρ S => match a ρ S with
  | some (d, S') => (match g d ρ with
    | some ρ' => some (.nx ρ' S')
    | none => none)
  | none => none
def sExpr (a : DE) : DS := fun ρ S => match a ρ S with
  | some (_, S') => some (.nx ρ S')
  | none => none
def sRet (a : DE) : DS := fun ρ S => match a ρ S with
  | some (d, S') => some (.rt d S')
  | none => none
def sIf (t : DT) (a b : DS) : DS := fun ρ S => match t ρ S with
  | some (true, S') => a ρ S'
  | some (false, S') => b ρ S'
  | none => none
def sBreak : DS := fun ρ S => some (.bk ρ S)
def sCont : DS := fun ρ S => some (.ct ρ S)
def sNever : DS := fun _ _ => none
def sPar (i j : Nat) (a : DA) : DS := fun ρ S => match a ρ S with
  | some ([x, y], S') => some (.nx ((ρ.set i (some x)).set j (some y)) S')
  | _ => none
/-- name op= e -/
def sAug (i : Nat) (f : D → D → Store → Option (D × Store)) (a : DE) : DS := fun ρ S => match ρ[i]? with
  | some (some x) => (match a ρ S with
    | some (y, S1) => (match f x y S1 with
      | some (z, S2) => some (.nx (ρ.set i (some z)) S2)
      | none => none)
    | none => none)
  | _ => none
section
variable {P : Program} {w : World} {K : PySem.W.Frag}
theorem endF.weak {E : Ends} {B B1 : Wd} {S S1 : Store} {H H1 : Hp} {f : Fl} (st : Stp B S H B1 S1 H1) (h : endF P w K E B S H f) : endF P w K E B1 S1 H1 f := by
  cases f with
  | nx ρ S' => exact fun B' σ' H' s2 hs he => h B' σ' H' (st.trans s2) hs he
  | rt d S' => exact fun B' v H' s2 hs r => h B' v H' (st.trans s2) hs r
  | bk ρ S' => exact fun B' σ' H' s2 hs he => h B' σ' H' (st.trans s2) hs he
  | ct ρ S' => exact fun B' σ' H' s2 hs he => h B' σ' H' (st.trans s2) hs he
end
section
variable {X : Cx} {st : Stmt} {rest : List Stmt} {c c' : DS} {e : Expr} {ce : DE} {pos : Pos}
theorem pdss_nil : PDSs X [] sNext := pss_imp pss_nil fun E σ H ⟨B, ρ, S, f, hs, he, ef, k⟩ => by
  cases ef
  exact k B σ H (Stp.refl ..) hs he
theorem pds_pass : PDS X (.Pass pos) sNext := ps_imp ps_pass fun E σ H ⟨B, ρ, S, f, hs, he, ef, k⟩ => by
  cases ef
  exact k B σ H (Stp.refl ..) hs he
theorem pds_break : PDS X (.Break pos) sBreak := ps_imp ps_break fun E σ H ⟨B, ρ, S, f, hs, he, ef, k⟩ => by
  cases ef
  exact k B σ H (Stp.refl ..) hs he
theorem pds_cont : PDS X (.Continue pos) sCont := ps_imp ps_continue fun E σ H ⟨B, ρ, S, f, hs, he, ef, k⟩ => by
  cases ef
  exact k B σ H (Stp.refl ..) hs he
theorem pds_never : PDS X st sNever := ps_imp ps_never fun E σ H ⟨B, ρ, S, f, hs, he, ef, k⟩ => by cases ef
theorem pdss_one (h : PDS X st c) : PDSs X [st] c := pss_one h
theorem pdss_cons (h1 : PDS X st c) (h2 : PDSs X rest c') : PDSs X (st :: rest) (sSeq c c') := pss_imp (pss_cons h1 h2) fun E σ H ⟨B, ρ, S, f, hs, he, ef, k⟩ => by
  unfold sSeq at ef
  split at ef
  · rename_i ρ1 S1 e1
    exact ⟨B, ρ, S, _, hs, he, e1, fun B' σ' H' st hs' he' => ⟨B', ρ1, S1, f, hs', he', ef, k.weak st⟩⟩
  · rename_i hn
    refine ⟨B, ρ, S, f, hs, he, ef, ?_⟩
    cases f with
    | nx ρ' S' => exact absurd ef (hn _ _)
    | _ => exact k
theorem pds_ret (h : PD X e ce) : PDS X (.Return (some e) pos) (sRet ce) := ps_imp (ps_ret h) fun E σ H ⟨B, ρ, S, f, hs, he, ef, k⟩ => by
  unfold sRet at ef
  split at ef
  · rename_i d S1 e1
    cases ef
    exact ⟨B, ρ, S, d, S1, hs, he, e1, fun B' v H' st hs' r => k B' v H' st hs' r⟩
  · cases ef
def sRetN : DS := fun _ S => some (.rt .non S)
theorem pds_retN : PDS X (.Return none pos) sRetN := ps_imp ps_retN fun E σ H ⟨B, ρ, S, f, hs, he, ef, k⟩ => by
  cases ef
  exact k B .non H (Stp.refl ..) hs .non
theorem pds_expr (h : PD X e ce) (hs : swapsWith e none pos.line X.env = pure false := by rfl) : PDS X (.Expr e pos) (sExpr ce) := ps_imp (ps_expr h hs) fun E σ H ⟨B, ρ, S, f, hs, he, ef, k⟩ => by
  unfold sExpr at ef
  split at ef
  · rename_i d S1 e1
    cases ef
    exact ⟨B, ρ, S, d, S1, hs, he, e1, fun B' v H' st hs' r => k B' σ H' st hs' (he.mono st)⟩
  · cases ef
theorem pds_doc {x : Str} {j : Nat} {pos' : Pos} : PDS X (.Expr (.Constant (.str x) j pos) pos') sNext := ps_imp ps_doc fun E σ H ⟨B, ρ, S, f, hs, he, ef, k⟩ => by
  cases ef
  exact k B σ H (Stp.refl ..) hs he
theorem pds_if {t : Expr} {a b : List Stmt} {ct : DT} (ht : PDT X t ct) (ha : PDSs X a c) (hb : PDSs X b c') : PDS X (.If t a b pos) (sIf ct c c') := ps_imp (ps_if ht ha hb) fun E σ H ⟨B, ρ, S, f, hs, he, ef, k⟩ => by
  unfold sIf at ef
  split at ef
  · rename_i S1 e1
    exact ⟨B, ρ, S, _, S1, hs, he, e1, fun B' H' st hs' => iteT ⟨B', ρ, S1, f, hs', he.mono st, ef, k.weak st⟩⟩
  · rename_i S1 e1
    exact ⟨B, ρ, S, _, S1, hs, he, e1, fun B' H' st hs' => iteF ⟨B', ρ, S1, f, hs', he.mono st, ef, k.weak st⟩⟩
  · cases ef
/-- a value goes into a target -/
theorem asg_core {P : Program} {w : World} {K : PySem.W.Frag} {vs : List Nat} {g : DG} {E : Ends} {σ : L2.St} {H : Hp} (h : tS P w K (sSet g ce) E σ H) : tAsg (tD P w K ce) (tG P w K vs g) E σ H := by
  obtain ⟨B, ρ, S, f, hs, he, ef, k⟩ := h
  unfold sSet at ef
  split at ef
  · rename_i d S1 e1
    split at ef
    · rename_i ρ' eg
      cases ef
      exact ⟨B, ρ, S, d, S1, hs, he, e1, fun B' v H' st hs' r => ⟨B', ρ, S1, d, ρ', hs', he.mono st, r, eg, fun σ' he' _ _ => k B' σ' H' st hs' he'⟩⟩
    · cases ef
  · cases ef
theorem pds_asg {tg : Expr} {vs : List Nat} {g : DG} (he : PD X e ce) (hg : PDG X tg vs g) (hs : swapsWithSole [tg] e pos.line X.env = pure false := by rfl) (hw : swappedStores [tg] e X.env = pure none := by rfl)
    (h1 : (assignEach [tg] X.env).map (·.2) = [assign tg X.env] := by rfl) : PDS X (.Assign [tg] e pos) (sSet g ce) := ps_imp (ps_asg he hg hs hw h1) fun E σ H h => asg_core h
/-- name = value: h is ps_set's -/
theorem pds_set {i : Nat} {x : Str} {pos' : Pos} (h : PS X (.Assign [.Name x pos'] e pos) (tAsg (tD X.prog X.w X.K ce) (gName i))) : PDS X (.Assign [.Name x pos'] e pos) (sSet (gN i) ce) := ps_imp h fun E σ H ⟨B, ρ, S, f, hs, he, ef, k⟩ => by
  unfold sSet at ef
  split at ef
  · rename_i d S1 e1
    cases ef
    exact ⟨B, ρ, S, d, S1, hs, he, e1, fun B' v H' st hs' r => k B' _ H' st hs' ((he.mono st).set r i)⟩
  · cases ef
theorem pds_par {i j : Nat} {ta : DA} {s : Stmt} (h : PS X s (tPar i j (tAs X.prog X.w X.K ta))) : PDS X s (sPar i j ta) := ps_imp h fun E σ H ⟨B, ρ, S, f, hs, he, ef, k⟩ => by
  unfold sPar at ef
  split at ef
  · rename_i x y S1 e1
    cases ef
    refine ⟨B, ρ, S, _, S1, hs, he, e1, fun B' vs H' st hs' r => ?_⟩
    cases r with
    | cons r1 r2 =>
      cases r2 with
      | cons r2 r3 =>
        cases r3
        exact ⟨_, _, rfl, k B' _ H' st hs' (((he.mono st).set r1 i).set r2 j)⟩
  · cases ef
theorem pds_aug {i : Nat} {x : Str} {op : Operator} {pos' : Pos} {r : R2} {f : D → D → Store → Option (D × Store)} (ho : OpR X (inplaceOp op) r) (hf : Ok2 X.prog X.w X.K r f) (h : PIp X op r → PS X (.AugAssign (.Name x pos') op e pos) (tAug i (tD X.prog X.w X.K ce) r)) : PDS X (.AugAssign (.Name x pos') op e pos) (sAug i f ce) :=
  ps_imp (h fun pins s σ H x y v u Q I rx ry q => ho pins s σ H x y v u Q I rx ry q) fun E σ H ⟨B, ρ, S, fl, hs, he, ef, k⟩ => by
    unfold sAug at ef
    split at ef
    · rename_i dx hd
      obtain ⟨v, hv, rv⟩ := he.at_ i _ hd
      split at ef
      · rename_i y S1 e1
        split at ef
        · rename_i z S2 e2
          cases ef
          exact ⟨v, hv, B, ρ, S, y, S1, hs, he, e1, fun B' v' H' st hs' r => hf B' S1 H' v v' dx y z S2 _ hs' (RV.mono st _ _ rv) r e2 fun B2 v2 H2 st2 hs2 r2 => k B2 _ H2 (st.trans st2) hs2 ((he.mono (st.trans st2)).set r2 i)⟩
        · cases ef
      · cases ef
    · cases ef
end

/-! ### while -/
def whileN (t : DT) (b : DS) : Nat → DS
  | 0 => fun _ _ => none
  | n + 1 => fun ρ S => match t ρ S with
    | none => none
    | some (false, S') => some (.nx ρ S')
    | some (true, S') => (match b ρ S' with
      | some (.nx ρ' S2) => whileN t b n ρ' S2
      | some (.ct ρ' S2) => whileN t b n ρ' S2
      | some (.bk ρ' S2) => some (.nx ρ' S2)
      | r => r)
theorem whileN_mono {t : DT} {b : DS} : ∀ {n m : Nat} {ρ : Env'} {S : Store} {f : Fl}, whileN t b n ρ S = some f → n ≤ m → whileN t b m ρ S = some f
  | 0, _, _, _, _, h, _ => by cases h
  | n + 1, 0, _, _, _, _, h => by omega
  | n + 1, m + 1, ρ, S, f, h, hl => by
    unfold whileN at h ⊢
    cases e : t ρ S with
    | none => rw [e] at h; cases h
    | some p =>
      obtain ⟨c, S'⟩ := p
      rw [e] at h
      cases c with
      | false => exact h
      | true =>
        simp only at h ⊢
        cases e2 : b ρ S' with
        | none => rw [e2] at h; cases h
        | some q =>
          rw [e2] at h
          cases q with
          | nx ρ' S2 => exact whileN_mono h (by omega)
          | ct ρ' S2 => exact whileN_mono h (by omega)
          | bk ρ' S2 => exact h
          | rt d S2 => exact h
open Classical in
noncomputable def sWhile (t : DT) (b : DS) : DS := fun ρ S => if h : ∃ f n, whileN t b n ρ S = some f then some (Classical.choose h) else none
theorem sWhile_of {t : DT} {b : DS} {ρ : Env'} {S : Store} {f : Fl} {n : Nat} (h : whileN t b n ρ S = some f) : sWhile t b ρ S = some f := by
  have hx : ∃ f n, whileN t b n ρ S = some f := ⟨f, n, h⟩
  unfold sWhile
  rw [dif_pos hx]
  obtain ⟨m, hm⟩ := Classical.choose_spec hx
  have a := whileN_mono h (Nat.le_max_left n m)
  have b := whileN_mono hm (Nat.le_max_right n m)
  rw [a] at b
  exact b.symm
theorem of_sWhile {t : DT} {b : DS} {ρ : Env'} {S : Store} {f : Fl} (h : sWhile t b ρ S = some f) : ∃ n, whileN t b n ρ S = some f := by
  unfold sWhile at h
  split at h
  · rename_i hx
    cases h
    exact Classical.choose_spec hx
  · cases h
theorem pds_while {X : Cx} {t : Expr} {body : List Stmt} {pos : Pos} {ct : DT} {cb : DS} (hp : PassesOwn (model X.prog X.w) X.A X.env X.xe) (ht : PDT X t ct) (hb : PDSs X body cb) : PDS X (.While t body [] pos) (sWhile ct cb) :=
  ps_imp (ps_while hp ht hb) fun E σ H ⟨B, ρ, S, f, hs, he, ef, k⟩ => by
    obtain ⟨n, ef⟩ := of_sWhile ef
    refine ⟨fun m σ' H' => ∃ B' ρ' S' f', RS X.prog X.w X.K B' S' H' ∧ RE X.K B' S' H' σ' ρ' ∧ whileN ct cb m ρ' S' = some f' ∧ endF X.prog X.w X.K ⟨E.nx, E.rt, E.bk, E.ct⟩ B' S' H' f', ⟨n, B, ρ, S, f, hs, he, ef, k⟩, ?_⟩
    rintro m σ1 H1 ⟨B1, ρ1, S1, f1, hs1, he1, e1, k1⟩
    cases m with
    | zero => cases e1
    | succ m =>
      unfold whileN at e1
      split at e1
      · cases e1
      · rename_i S2 e2
        cases e1
        exact ⟨B1, ρ1, S1, _, _, hs1, he1, e2, fun B' H' st hs' => iteF (k1 B' σ1 H' st hs' (he1.mono st))⟩
      · rename_i S2 e2
        refine ⟨B1, ρ1, S1, _, _, hs1, he1, e2, fun B2 H2 st2 hs2 => iteT ⟨fun σ' H' => ∃ B' ρ' S' f', RS X.prog X.w X.K B' S' H' ∧ RE X.K B' S' H' σ' ρ' ∧ whileN ct cb m ρ' S' = some f' ∧ endF X.prog X.w X.K ⟨E.nx, E.rt, E.bk, E.ct⟩ B' S' H' f', fun σ' H' q => ⟨m, Nat.lt_succ_self m, q⟩, ?_⟩⟩
        have k2 := k1.weak st2
        split at e1
        · rename_i ρ3 S3 e3
          exact ⟨B2, ρ1, S2, _, hs2, he1.mono st2, e3, fun B3 σ3 H3 st3 hs3 he3 => ⟨B3, ρ3, S3, f1, hs3, he3, e1, k2.weak st3⟩⟩
        · rename_i ρ3 S3 e3
          exact ⟨B2, ρ1, S2, _, hs2, he1.mono st2, e3, fun B3 σ3 H3 st3 hs3 he3 => ⟨B3, ρ3, S3, f1, hs3, he3, e1, k2.weak st3⟩⟩
        · rename_i ρ3 S3 e3
          cases e1
          exact ⟨B2, ρ1, S2, _, hs2, he1.mono st2, e3, fun B3 σ3 H3 st3 hs3 he3 => k2 B3 σ3 H3 st3 hs3 he3⟩
        · rename_i h1 h2 h3
          refine ⟨B2, ρ1, S2, f1, hs2, he1.mono st2, e1, ?_⟩
          cases f1 with
          | nx ρ' S' => exact absurd e1 (h1 _ _)
          | ct ρ' S' => exact absurd e1 (h2 _ _)
          | bk ρ' S' => exact absurd e1 (h3 _ _)
          | rt d S' => exact k2

/-! ### for -/
/-- what is walked: its items; if they are a cell's list, the cell -/
abbrev Itm := List D × Option Nat
abbrev DI := Env' → Store → Option (Itm × Store)
def liveOk (l : Option Nat) (xs : List D) (S : Store) : Prop := match l with
  | none => True
  | some k => S[k]? = some (.lst xs)
/-- J walks the items from any later state on -/
def Wlk (P : Program) (w : World) (K : PySem.W.Frag) (B : Wd) (S : Store) (H : Hp) (J : It) (m : Itm) : Prop :=
  ∀ B' S' H', St0 B S H B' S' H' → RS P w K B' S' H' → liveOk m.2 m.1 S' → ∀ i,
    (∀ d, m.1[i]? = some d → J.go i H' ∧ ∀ x H'', J.yld i H' x H'' → Stp B' S' H' B' S' H'' ∧ RS P w K B' S' H'' ∧ RV K B' S' H'' x d) ∧ (i = m.1.length → J.stop i H')
def tI (P : Program) (w : World) (K : PySem.W.Frag) (c : DI) : TI := fun σ H R => ∃ B ρ S m S', RS P w K B S H ∧ RE K B S H σ ρ ∧ c ρ S = some (m, S') ∧
  ∀ B' J H', Stp B S H B' S' H' → RS P w K B' S' H' → Wlk P w K B' S' H' J m → R J H'
theorem pi_imp {X : Cx} {tg e : Expr} {t t' : TI} (h : PI X tg e t) (i : ∀ σ H Q, t' σ H Q → t σ H Q) : PI X tg e t' := ⟨fun pins s σ H Q I hw => h.run pins s σ H Q I (i σ H Q hw)⟩
abbrev PDI (X : Cx) (tg e : Expr) (c : DI) : Prop := PI X tg e (tI X.prog X.w X.K c)
/-- whether a walked cell still holds the list -/
def liveB (l : Option Nat) (xs : List D) (S : Store) (f : Option Fl) : Option Fl := match l with
  | none => f
  | some k => (match S[k]? with
    | some (.lst ys) => if ys.length = xs.length then f else none
    | _ => none)
open Classical in
/-- the turns; xs: all items, ys: those that are left -/
noncomputable def forL (g : DG) (b : DS) (l : Option Nat) (xs : List D) : List D → DS
  | [] => fun ρ S => if liveOk l xs S then some (.nx ρ S) else none
  | y :: ys => fun ρ S => if liveOk l xs S then (match g y ρ with
    | none => none
    | some ρ1 => (match b ρ1 S with
      | some (.nx ρ' S') => forL g b l xs ys ρ' S'
      | some (.ct ρ' S') => forL g b l xs ys ρ' S'
      | some (.bk ρ' S') => some (.nx ρ' S')
      | r => r)) else none
noncomputable def sFor (c : DI) (g : DG) (b : DS) : DS := fun ρ S => match c ρ S with
  | some (m, S') => forL g b m.2 m.1 m.1 ρ S'
  | none => none
theorem pds_for {X : Cx} {tg iter : Expr} {body : List Stmt} {pos : Pos} {ci : DI} {vs : List Nat} {g : DG} {cb : DS} (hp : PassesOwn (model X.prog X.w) X.A X.env X.xe) (hc : X.calm = true) (hi : PDI X tg iter ci) (hg : PDG X tg vs g) (hb : PDSs X body cb)
    (hs : ∀ x, foldedSetIterable iter X.env x = pure x := by intro _; rfl) : PDS X (.For tg iter body [] pos) (sFor ci g cb) :=
  ps_imp (ps_for hp hc hi hg hb hs) fun E σ H ⟨B, ρ, S, f, hs, he, ef, k⟩ => by
    unfold sFor at ef
    split at ef
    · rename_i m S1 e1
      refine ⟨B, ρ, S, m, S1, hs, he, e1, fun B1 J H1 st1 hs1 W => ?_⟩
      refine ⟨fun i n σ' H' => n = m.1.length - i ∧ i ≤ m.1.length ∧ ∃ B' ρ' S' f', Stp B1 S1 H1 B' S' H' ∧ RS X.prog X.w X.K B' S' H' ∧ RE X.K B' S' H' σ' ρ' ∧ forL g cb m.2 m.1 (m.1.drop i) ρ' S' = some f' ∧ endF X.prog X.w X.K ⟨E.nx, E.rt, E.bk, E.ct⟩ B' S' H' f',
        ⟨m.1.length, by simp, Nat.zero_le _, B1, ρ, S1, f, Stp.refl .., hs1, he.mono st1, by simpa using ef, k.weak st1⟩, ?_⟩
      rintro i n σ2 H2 ⟨rfl, hl, B2, ρ2, S2, f2, st2, hs2, he2, e2, k2⟩
      by_cases hlt : i < m.1.length
      · have hd : m.1.drop i = m.1[i] :: m.1.drop (i + 1) := (List.drop_eq_getElem_cons hlt)
        have hx : m.1[i]? = some m.1[i] := by simp [hlt]
        rw [hd] at e2
        unfold forL at e2
        split at e2
        · rename_i lv
          obtain ⟨w1, _⟩ := W B2 S2 H2 st2.toSt0 hs2 lv i
          obtain ⟨w2, w3⟩ := w1 _ hx
          refine .inr ⟨w2, fun σ' H' => i + 1 ≤ m.1.length ∧ ∃ B' ρ' S' f', Stp B1 S1 H1 B' S' H' ∧ RS X.prog X.w X.K B' S' H' ∧ RE X.K B' S' H' σ' ρ' ∧ forL g cb m.2 m.1 (m.1.drop (i + 1)) ρ' S' = some f' ∧ endF X.prog X.w X.K ⟨E.nx, E.rt, E.bk, E.ct⟩ B' S' H' f', fun σ' H' q => ⟨m.1.length - (i + 1), by omega, rfl, q⟩, fun x H3 y => ?_⟩
          obtain ⟨st3, hs3, r3⟩ := w3 x H3 y
          have he3 := he2.mono st3
          have k3 := k2.weak st3
          have st13 := st2.trans st3
          split at e2
          · cases e2
          · rename_i ρ1 eg
            refine ⟨B2, ρ2, S2, _, ρ1, hs3, he3, r3, eg, fun σ4 he4 _ _ => ?_⟩
            split at e2
            · rename_i ρ5 S5 e5
              exact ⟨B2, ρ1, S2, _, hs3, he4, e5, fun B6 σ6 H6 st6 hs6 he6 => ⟨hlt, B6, ρ5, S5, f2, st13.trans st6, hs6, he6, e2, k3.weak st6⟩⟩
            · rename_i ρ5 S5 e5
              exact ⟨B2, ρ1, S2, _, hs3, he4, e5, fun B6 σ6 H6 st6 hs6 he6 => ⟨hlt, B6, ρ5, S5, f2, st13.trans st6, hs6, he6, e2, k3.weak st6⟩⟩
            · rename_i ρ5 S5 e5
              cases e2
              exact ⟨B2, ρ1, S2, _, hs3, he4, e5, fun B6 σ6 H6 st6 hs6 he6 => k3 B6 σ6 H6 st6 hs6 he6⟩
            · rename_i h1 h2 h3
              refine ⟨B2, ρ1, S2, f2, hs3, he4, e2, ?_⟩
              cases f2 with
              | nx ρ' S' => exact absurd e2 (h1 _ _)
              | ct ρ' S' => exact absurd e2 (h2 _ _)
              | bk ρ' S' => exact absurd e2 (h3 _ _)
              | rt d S' => exact k3
        · cases e2
      · have hi : i = m.1.length := by omega
        subst hi
        rw [List.drop_length] at e2
        unfold forL at e2
        split at e2
        · rename_i lv
          cases e2
          exact .inl ⟨(W B2 S2 H2 st2.toSt0 hs2 lv _).2 rfl, k2 B2 σ2 H2 (Stp.refl ..) hs2 he2⟩
        · cases e2
    · cases ef

/-! ### defs -/
-- what leaves a def: data without the def's own cells
mutual
def below (n : Nat) : D → Bool
  | .ref k => decide (k < n)
  | .tup ds => belows n ds
  | .lst ds => belows n ds
  | .scr ds => belows n ds
  | .non => true
  | .bl _ => true
  | .int _ => true
  | .str _ => true
def belows (n : Nat) : List D → Bool
  | [] => true
  | d :: ds => below n d && belows n ds
end
def cellBelow (n : Nat) : Cell → Prop
  | .dead => True
  | .lst ds => belows n ds = true
  | .dK _ kvs => ∀ p ∈ kvs, below n p.2 = true
  | .dN _ kvs => ∀ p ∈ kvs, below n p.1 = true ∧ below n p.2 = true
open Classical in
noncomputable def leaveV (S S' : Store) (d : D) : Option (D × Store) :=
  if ∀ k, k < S.length → S'[k]? = S[k]? ∨ ∃ c, S'[k]? = some c ∧ cellBelow S.length c then
    (if below S.length d = true then some (d, S'.take S.length) else match d with
      | .ref k => (match S'[k]? with
        | some c => if c ≠ Cell.dead ∧ cellBelow S.length c then some (.ref S.length, S'.take S.length ++ [c]) else none
        | none => none)
      | _ => none)
  else none
noncomputable def leave (S : Store) (r : Option Fl) : Option (D × Store) := match r with
  | some (.nx _ S') => leaveV S S' .non
  | some (.rt d S') => leaveV S S' d
  | _ => none
section
variable {P : Program} {w : World} {K : PySem.W.Frag} {B B' : Wd} {S S' : Store} {H H' : Hp}
mutual
theorem RV.isBelow : ∀ (d : D) (v : V), RV K B S H v d → below S.length d = true
  | .non, _, _ => rfl
  | .bl _, _, _ => rfl
  | .int _, _, _ => rfl
  | .str _, _, _ => rfl
  | .tup ds, _, h => by
    cases h with
    | tup e n r => exact RVs.areBelow ds _ r
    | tupK e r => exact RVs.areBelow ds _ r
  | .lst ds, _, h => by cases h with | lst e n r => exact RVs.areBelow ds _ r
  | .scr ds, _, h => by
    cases h with
    | lstF e n r => exact RVs.areBelow ds _ r
    | lstK e r => exact RVs.areBelow ds _ r
  | .ref k, _, h => by cases h with | ref lt => exact decide_eq_true lt
theorem RVs.areBelow : ∀ (ds : List D) (vs : List V), RVs K B S H vs ds → belows S.length ds = true
  | [], _, _ => rfl
  | d :: ds, _, h => by
    cases h with
    | cons h1 h2 =>
      show (DL.below S.length d && DL.belows S.length ds) = true
      rw [RV.isBelow d _ h1, RVs.areBelow ds _ h2]
      rfl
end
mutual
theorem RV.cut {n : Nat} (hb : ∀ k, k < n → B' k = B k) (hl : n ≤ S'.length) (ho : ∀ a, Owned B' S' a → Owned B S a) : ∀ (d : D) (v : V), RV K B S H v d → below n d = true → RV K B' S' H v d
  | .non, _, h, _ => by cases h; exact .non
  | .bl b, _, h, _ => by cases h; exact .bl b
  | .int i, _, h, _ => by cases h; exact .int i
  | .str x, _, h, _ => by cases h; exact .str x
  | .tup ds, _, h, z => by
    cases h with
    | tup e m r => exact .tup e (fun w => m (ho _ w)) (RVs.cut hb hl ho ds _ r z)
    | tupK e r => exact .tupK e (RVs.cut hb hl ho ds _ r z)
  | .lst ds, _, h, z => by cases h with | lst e m r => exact .lst e (fun w => m (ho _ w)) (RVs.cut hb hl ho ds _ r z)
  | .scr ds, _, h, z => by
    cases h with
    | lstF e m r => exact .lstF e (fun w => m (ho _ w)) (RVs.cut hb hl ho ds _ r z)
    | lstK e r => exact .lstK e (RVs.cut hb hl ho ds _ r z)
  | .ref k, _, h, z => by
    cases h with
    | ref lt =>
      have lt2 : k < n := of_decide_eq_true z
      rw [← hb k lt2]
      exact .ref (Nat.lt_of_lt_of_le lt2 hl)
theorem RVs.cut {n : Nat} (hb : ∀ k, k < n → B' k = B k) (hl : n ≤ S'.length) (ho : ∀ a, Owned B' S' a → Owned B S a) : ∀ (ds : List D) (vs : List V), RVs K B S H vs ds → belows n ds = true → RVs K B' S' H vs ds
  | [], _, h, _ => by cases h; exact .nil
  | d :: ds, _, h, z => by
    cases h with
    | cons h1 h2 =>
      have z' : (DL.below n d && DL.belows n ds) = true := z
      rw [Bool.and_eq_true] at z'
      exact .cons (RV.cut hb hl ho d _ h1 z'.1) (RVs.cut hb hl ho ds _ h2 z'.2)
end
theorem CRl.cut {n : Nat} {a : Addr} {c : Cell} (hb : ∀ k, k < n → B' k = B k) (hl : n ≤ S'.length) (ho : ∀ a, Owned B' S' a → Owned B S a) (r : CRl P w K B S H a c) (z : cellBelow n c) : CRl P w K B' S' H a c := by
  cases c with
  | dead => trivial
  | lst ds =>
    obtain ⟨xs, h, q⟩ := r
    exact ⟨xs, h, RVs.cut hb hl ho _ _ q z⟩
  | dK lk kvs =>
    obtain ⟨kxs, q, h⟩ := r
    refine ⟨kxs, ?_, h⟩
    have z' : ∀ p ∈ kvs, DL.below n p.2 = true := z
    clear z h
    unfold KRel at q ⊢
    induction q with
    | nil => exact .nil
    | cons r t ih => exact .cons ⟨r.1, RV.cut hb hl ho _ _ r.2 (z' _ (by simp))⟩ (ih fun p hp => z' p (by simp [hp]))
  | dN lk kvs =>
    obtain ⟨o, xs, h, y, l, m, q⟩ := r
    refine ⟨o, xs, h, y, l, m, ?_⟩
    have z' : ∀ p ∈ kvs, DL.below n p.1 = true ∧ DL.below n p.2 = true := z
    clear z h l m
    unfold NRel at q ⊢
    induction q with
    | nil => exact .nil
    | cons r t ih => exact .cons ⟨r.1, r.2.1, RV.cut hb hl ho _ _ r.2.2.1 (z' _ (by simp)).1, let ⟨v, e, u⟩ := r.2.2.2; ⟨v, e, RV.cut hb hl ho _ _ u (z' _ (by simp)).2⟩⟩ (ih fun p hp => z' p (by simp [hp]))
theorem CRl.below {a : Addr} {c : Cell} (r : CRl P w K B S H a c) : cellBelow S.length c := by
  cases c with
  | dead => trivial
  | lst ds =>
    obtain ⟨xs, h, q⟩ := r
    exact RVs.areBelow _ _ q
  | dK lk kvs =>
    obtain ⟨kxs, q, h⟩ := r
    clear h
    show ∀ p ∈ kvs, DL.below S.length p.2 = true
    unfold KRel at q
    induction q with
    | nil => intro p hp; cases hp
    | cons r t ih =>
      intro p hp
      rcases List.mem_cons.mp hp with e | hp
      · rw [e]; exact RV.isBelow _ _ r.2
      · exact ih p hp
  | dN lk kvs =>
    obtain ⟨o, xs, h, y, l, m, q⟩ := r
    clear h l m
    show ∀ p ∈ kvs, DL.below S.length p.1 = true ∧ DL.below S.length p.2 = true
    unfold NRel at q
    induction q with
    | nil => intro p hp; cases hp
    | cons r t ih =>
      intro p hp
      rcases List.mem_cons.mp hp with e | hp
      · rw [e]
        obtain ⟨v, _, u⟩ := r.2.2.2
        exact ⟨RV.isBelow _ _ r.2.2.1, RV.isBelow _ _ u⟩
      · exact ih p hp
theorem leave_ok {v : V} {d d' : D} {S'' : Store} (hs : RS P w K B S H) (st : Stp B S H B' S' H') (hs' : RS P w K B' S' H') (r : RV K B' S' H' v d) (e : leaveV S S' d = some (d', S'')) :
    ∃ B'', Stp B S H B'' S'' H' ∧ RS P w K B'' S'' H' ∧ RV K B'' S'' H' v d' := by
  unfold leaveV at e
  split at e
  · rename_i hc
    have cb : ∀ k c, k < S.length → S'[k]? = some c → cellBelow S.length c := fun k c hk hc' => by
      rcases hc k hk with q | ⟨c2, q, z⟩
      · rw [hc'] at q
        exact (hs.cel k c q.symm).below
      · rw [hc'] at q; cases q; exact z
    have tk : ∀ {k : Nat} {c : Cell}, (S'.take S.length)[k]? = some c → k < S.length ∧ S'[k]? = some c := fun {k c} h => by
      rw [List.getElem?_take] at h
      split at h
      · exact ⟨by assumption, h⟩
      · cases h
    split at e
    · rename_i hb
      cases e
      have ho : ∀ a, Owned B' (S'.take S.length) a → Owned B' S' a := fun a o => by
        rcases o with o | ⟨k, c, h1, h2, h3⟩
        · exact .inl o
        · exact .inr ⟨k, c, (tk h1).2, h2, h3⟩
      have hl : S.length ≤ (S'.take S.length).length := by rw [List.length_take]; have := st.len; omega
      refine ⟨B', ⟨⟨hl, st.agr, st.oth, fun a o h w => st.own a o h (ho a w), fun k kvs h => let ⟨h1, h2⟩ := st.lks k kvs h; ⟨by rw [List.getElem?_take, if_pos (List.getElem?_eq_some_iff.mp h).1]; exact h1, h2⟩⟩, st.hde, st.hdk⟩, ⟨fun i j ci cj h1 h2 => hs'.inj i j ci cj (tk h1).2 (tk h2).2, fun k c h => ?_, hs'.hdt, fun b k c hb h nc => hs'.hdn b k c hb (tk h).2 nc⟩, RV.cut (n := S.length) (fun _ _ => rfl) hl ho _ _ r hb⟩
      exact (hs'.cel k c (tk h).2).cut (n := S.length) (fun _ _ => rfl) hl ho (cb k c (tk h).1 (tk h).2)
    · split at e
      · rename_i k hnb
        split at e
        · rename_i c hk
          split at e
          · rename_i hcd
            cases e
            cases r with
            | ref lt =>
              have hlen : (S'.take S.length).length = S.length := by rw [List.length_take]; have := st.len; omega
              have at_ : ∀ {i : Nat} {ci : Cell}, (S'.take S.length ++ [c])[i]? = some ci → (i < S.length ∧ S'[i]? = some ci ∧ addB B' S.length (B' k) i = B' i) ∨ (i = S.length ∧ ci = c ∧ addB B' S.length (B' k) i = B' k) := fun {i ci} h => by
                rcases at_add h with ⟨l, h'⟩ | ⟨l, h'⟩
                · rw [hlen] at l
                  exact .inl ⟨l, (tk h').2, addB_lt l⟩
                · rw [hlen] at l
                  subst l
                  exact .inr ⟨rfl, h', addB_self⟩
              have hkn : ¬ k < S.length := by
                intro z
                exact hnb (decide_eq_true z)
              have ho : ∀ a, Owned (addB B' S.length (B' k)) (S'.take S.length ++ [c]) a → Owned B' S' a := fun a o => by
                rcases o with o | ⟨i, ci, h1, h2, h3⟩
                · exact .inl o
                · rcases at_ h1 with ⟨q1, q2, q3⟩ | ⟨q1, q2, q3⟩
                  · exact .inr ⟨i, ci, q2, h2, by rw [← q3]; exact h3⟩
                  · exact .inr ⟨k, c, hk, hcd.1, by rw [← q3]; exact h3⟩
              have hl : S.length ≤ (S'.take S.length ++ [c]).length := by rw [List.length_append, hlen]; omega
              have hb : ∀ j, j < S.length → addB B' S.length (B' k) j = B' j := fun j hj => addB_lt hj
              refine ⟨addB B' S.length (B' k), ⟨⟨hl, fun j hj => (hb j hj).trans (st.agr j hj), st.oth, fun a o h w => st.own a o h (ho a w), fun k kvs h => let ⟨h1, h2⟩ := st.lks k kvs h; have hk := (List.getElem?_eq_some_iff.mp h).1; ⟨by rw [List.getElem?_append_left (by rw [hlen]; exact hk), List.getElem?_take, if_pos hk]; exact h1, h2⟩⟩, st.hde, st.hdk⟩, ⟨fun i j ci cj h1 h2 n1 n2 eq => ?_, fun i ci h => ?_, hs'.hdt, fun b i ci hb1 h nc => ?_⟩, ?_⟩
              · rcases at_ h1 with ⟨p1, p2, p3⟩ | ⟨p1, p2, p3⟩ <;> rcases at_ h2 with ⟨q1, q2, q3⟩ | ⟨q1, q2, q3⟩
                · exact hs'.inj i j ci cj p2 q2 n1 n2 ((p3.symm.trans eq).trans q3)
                · have := hs'.inj i k ci c p2 hk n1 hcd.1 ((p3.symm.trans eq).trans q3)
                  omega
                · have := hs'.inj k j c cj hk q2 hcd.1 n2 ((p3.symm.trans eq).trans q3)
                  omega
                · rw [p1, q1]
              · rcases at_ h with ⟨p1, p2, p3⟩ | ⟨p1, p2, p3⟩
                · rw [p3]
                  exact (hs'.cel i ci p2).cut (n := S.length) hb hl ho (cb i ci p1 p2)
                · rw [p3, p2]
                  exact (hs'.cel k c hk).cut (n := S.length) hb hl ho hcd.2
              · rcases at_ h with ⟨p1, p2, p3⟩ | ⟨p1, p2, p3⟩
                · rw [p3]
                  exact hs'.hdn b i ci hb1 p2 nc
                · rw [p3]
                  exact hs'.hdn b k c hb1 hk hcd.1
              · have e2 : V.ref (B' k) = V.ref (addB B' S.length (B' k) S.length) := by rw [addB_self]
                rw [e2]
                exact .ref (by rw [List.length_append, hlen]; exact Nat.lt_succ_self _)
          · cases e
        · cases e
      · cases e
  · cases e
end
abbrev DF := List D → Store → Option (D × Store)
/-- a def as it works on data -/
noncomputable def callF (n : Nat) (b : DS) : DF := fun ds S => leave S (b (ds.map some ++ List.replicate (n - ds.length) none) S)
/-- the promise of a def: it works so -/
def spD (P : Program) (w : World) (K : PySem.W.Frag) (n : Nat) (F : DF) : Sp := fun vs H Q _ => vs.length = n ∧ ∃ B S ds d S', RS P w K B S H ∧ RVs K B S H vs ds ∧ F ds S = some (d, S') ∧
  ∀ B' v H', Stp B S H B' S' H' → RS P w K B' S' H' → RV K B' S' H' v d → Q v H'
theorem re_start {K : PySem.W.Frag} {B : Wd} {S : Store} {H : Hp} {N : List Str} : ∀ {vs : List V} {ds : List D}, RVs K B S H vs ds → RE K B S H (L2.start N vs) (ds.map some ++ List.replicate (N.length - ds.length) none) := fun {vs ds} r => by
  have hl := r.length
  refine ⟨by simp [L2.start, hl], fun i d e => ?_⟩
  rw [List.getElem?_append] at e
  split at e
  · rename_i h
    rw [List.getElem?_map] at e
    cases q : ds[i]? with
    | none => rw [q] at e; cases e
    | some d' =>
      rw [q] at e
      cases e
      obtain ⟨v, h1, h2⟩ := r.get q
      refine ⟨v, ?_, h2⟩
      unfold L2.start
      rw [List.getElem?_append_left (by rw [List.length_map]; exact (List.getElem?_eq_some_iff.mp h1).1), List.getElem?_map, h1]
      rfl
  · rw [List.getElem?_replicate] at e
    split at e <;> cases e
theorem fn_core {P : Program} {w : World} {K : PySem.W.Frag} {N : List Str} {n : Nat} {c : DS} {vs : List V} {H : Hp} {Q : VK} {E : XK} (h : spD P w K n (callF N.length c) vs H Q E) :
    tS P w K c { nx := fun _ H' => Q .non H', rt := Q } (L2.start N vs) H := by
  obtain ⟨hn, B, S, ds, d, S', hs, r, e, k⟩ := h
  unfold callF leave at e
  split at e
  · rename_i ρ' S1 e1
    refine ⟨B, _, S, _, hs, re_start r, e1, fun B' σ' H' st hs' _ => ?_⟩
    obtain ⟨B2, s1, s2, s3⟩ := leave_ok hs st hs' RV.non e
    exact k B2 _ H' s1 s2 s3
  · rename_i d1 S1 e1
    refine ⟨B, _, S, _, hs, re_start r, e1, fun B' v H' st hs' rv => ?_⟩
    obtain ⟨B2, s1, s2, s3⟩ := leave_ok hs st hs' rv e
    exact k B2 _ H' s1 s2 s3
  · cases e
theorem fnD {P : Program} {w : World} {K : PySem.W.Frag} {mg : Str → Option Value} {base : Heap} {x qual : Str} {st : Stmt} {f : Addr} {fd : FuncData} {N ps : List Str} {k : Nat} {c : DS}
    (F : FunD K x qual (defArgs st) (defBody st) (defScope st) [] [] f fd) (S : FnScope N ps (defScope st))
    (hb : ∀ (cdv : Value) (A : Around) (outer : List Env) (s : Shared) (H : Hp) (E : XK), Room k (A.deeper (envOfC qual (defScope st) s.heap.objs.size f cdv)) →
      PDSs (cxOf CX0 P w K mg base N qual (defScope st) f cdv A outer s H E).nox (defBody st) c) : FnOk P w K mg base CX0 (k + 1) f fd ps (spD P w K ps.length (callF N.length c)) :=
  F.ok S (fun vs H Q E h => h.1) fun cdv A outer s H vs Q E hr h => ⟨tS P w K c, PSs.nox (hb cdv A outer s H E hr), fn_core h⟩
theorem pd_call {X : Cx} {k : Nat} {f : Addr} {fd : FuncData} {ps : List Str} {F : DF} {x : Str} {p pos : Pos} {e : Expr} {es : List Expr} {cs : DA} (G : FnOk X.prog X.w X.K X.mg X.base CX0 k f fd ps (spD X.prog X.w X.K ps.length F)) (hr : Room k X.A) (hg : Gl X x) (hm : X.mg x = some (.ref f)) (hk : PySem.W.keepIn X.K (.ref f) = true) (hb : Binds X.K fd ps [])
    (hl : (e :: es).length = ps.length) (ha : PDA X (e :: es) cs) (hdb : (x == ("__debug__" : Str)) = false := by decide) (he : starEach (e :: es) X.env = (false, eval e X.env) :: starEach es X.env := by rfl) (hpl : (backTo pos (starEach es X.env)).any (·.1) = false := by rfl) :
    PD X (.Call (.Name x p) (e :: es) [] pos) (cApp (fun ds S => if ds.length = ps.length then F ds S else none) cs) :=
  pe_imp (pe_call (E := E0) G hr hg hm hk hb .nil pass0 ha hdb he hpl) fun σ H Q h => tD_app h fun B S H xs dxs d S' hs rx e k => by
    split at e
    · rename_i hl2
      refine ⟨by rw [List.append_nil, rx.length]; exact hl2, B, S, dxs, d, S', hs, by rw [List.append_nil]; exact rx, e, k⟩
    · cases e
end DL

/-! Values: operators, comparisons, subscripts, slices, built-ins. -/
namespace DL
open PySem PySem.Spec PyProof.Rows L2

/-- a list that is read and may be joined; one that is read -/
def asL (S : Store) : D → Option (List D)
  | .lst xs => some xs
  | .ref k => (match S[k]? with
    | some (.lst xs) => some xs
    | _ => none)
  | _ => none
def asQ (S : Store) : D → Option (List D)
  | .scr xs => some xs
  | d => asL S d
section
variable {P : Program} {w : World} {K : PySem.W.Frag} {B : Wd} {S : Store} {H : Hp} {v : V} {d : D} {ds : List D}
theorem asL_ok (hs : RS P w K B S H) (r : RV K B S H v d) (e : asL S d = some ds) : ∃ a xs, v = .ref a ∧ H a = some (.lst xs) ∧ RVs K B S H xs ds := by
  unfold asL at e
  split at e
  · cases e
    cases r with
    | lst h n q => exact ⟨_, _, rfl, h, q⟩
  · split at e
    · rename_i k xs hk
      cases e
      cases r with
      | ref lt =>
        obtain ⟨xs, h, q⟩ := hs.cel _ _ hk
        exact ⟨_, xs, rfl, h, q⟩
    · cases e
  · cases e
theorem asQ_ok (hs : RS P w K B S H) (r : RV K B S H v d) (e : asQ S d = some ds) : ∃ a xs, v = .ref a ∧ SqL K H a xs ∧ RVs K B S H xs ds := by
  unfold asQ at e
  split at e
  · cases e
    cases r with
    | lstF h n q => exact ⟨_, _, rfl, .inl (.inr ⟨_, h⟩), q⟩
    | lstK h q => exact ⟨_, _, rfl, h H, q⟩
  · obtain ⟨a, xs, h1, h2, h3⟩ := asL_ok hs r e
    exact ⟨a, xs, h1, SqL.of h2, h3⟩
theorem RV.intI {i : Int} (r : RV K B S H v (.int i)) : v = .int i := by cases r; rfl
theorem RV.blI {i : Bool} (r : RV K B S H v (.bl i)) : v = .bl i := by cases r; rfl
theorem RV.strI {i : Str} (r : RV K B S H v (.str i)) : v = .str i := by cases r; rfl
theorem RV.nonI (r : RV K B S H v .non) : v = .non := by cases r; rfl
end

/-! ### + - * // % ** -/
def addD : D → D → Store → Option (D × Store) := fun x y S => match x, y with
  | .int a, .int b => some (.int (a + b), S)
  | .int a, .bl b => some (.int (a + b2i b), S)
  | .str a, .str b => if a.length + b.length ≤ sizeLine then some (.str (a ++ b), S) else none
  | .tup a, .tup b => if a.length + b.length ≤ sizeLine then some (.tup (a ++ b), S) else none
  | x, y => (match asL S x with
    | some a => (match asL S y with
      | some b => if a.length + b.length ≤ sizeLine then some (.lst (a ++ b), S) else none
      | none => none)
    | none => none)
def subD : D → D → Store → Option (D × Store) := fun x y S => match x, y with
  | .int a, .int b => some (.int (a - b), S)
  | _, _ => none
def inM (a b : Int) : Prop := (-(2 ^ 64) < a ∧ a < 2 ^ 64) ∨ (-(2 ^ 64) < b ∧ b < 2 ^ 64)
def inP (a b : Int) : Prop := 0 ≤ b ∧ b ≤ 1000000 ∧ a.natAbs < 2 ^ 64
open Classical in
noncomputable def mulD : D → D → Store → Option (D × Store) := fun x y S => match x, y with
  | .int a, .int b => if inM a b then some (.int (a * b), S) else none
  | _, _ => none
def fdivD : D → D → Store → Option (D × Store) := fun x y S => match x, y with
  | .int a, .int b => if b ≠ 0 ∧ b.natAbs < 1073741824 then some (.int (a.fdiv b), S) else none
  | _, _ => none
def modD : D → D → Store → Option (D × Store) := fun x y S => match x, y with
  | .int a, .int b => if b ≠ 0 then some (.int (a.fmod b), S) else none
  | _, _ => none
open Classical in
noncomputable def powD : D → D → Store → Option (D × Store) := fun x y S => match x, y with
  | .int a, .int b => if inP a b then some (.int (a ^ b.toNat), S) else none
  | _, _ => none
def negD : D → Store → Option (D × Store) := fun x S => match x with
  | .int a => some (.int (-a), S)
  | _ => none
section
variable {P : Program} {w : World} {K : PySem.W.Frag}
theorem ok_add : Ok2 P w K (fun x y H Q => rI0 (fun i j => .int (i + j)) x y H Q ∨ (∃ i k, x = .int i ∧ y = .bl k ∧ Q (.int (i + b2i k)) H) ∨ (∃ i j, x = .str i ∧ y = .str j ∧ i.length + j.length ≤ sizeLine ∧ Q (.str (i ++ j)) H) ∨ rCatA K x y H Q ∨ rCat x y H Q) addD := by
  intro B S H x y dx dy d S' Q hs rx ry e k
  unfold addD at e
  split at e
  · cases e; exact .inl ⟨_, _, rx.intI, ry.intI, k B _ H (Stp.refl ..) hs (.int _)⟩
  · cases e; exact .inr (.inl ⟨_, _, rx.intI, ry.blI, k B _ H (Stp.refl ..) hs (.int _)⟩)
  · split at e
    · rename_i hl
      cases e; exact .inr (.inr (.inl ⟨_, _, rx.strI, ry.strI, hl, k B _ H (Stp.refl ..) hs (.str _)⟩))
    · cases e
  · split at e
    · rename_i hl
      cases e
      obtain ⟨a, xs, ea, ha, qa⟩ := rx.tupI
      obtain ⟨b, ys, eb, hb, qb⟩ := ry.tupI
      refine .inr (.inr (.inr (.inl ⟨a, b, xs, ys, ea, eb, ha, hb, by rw [qa.length, qb.length]; exact hl, fun h => ?_, fun _ h => ?_, fun _ _ p hp => ?_⟩)))
      · subst h
        cases qa
        rw [← eb]
        exact k B _ H (Stp.refl ..) hs ry
      · subst h
        cases qb
        rw [List.append_nil] at k
        rw [← ea]
        exact k B _ H (Stp.refl ..) hs rx
      · exact k B _ _ (Stp.new hs hp) (hs.new hp) (RV.newTup hs hp (qa.append qb))
    · cases e
  · split at e
    · rename_i a ea
      split at e
      · rename_i b eb
        split at e
        · rename_i hl
          cases e
          obtain ⟨p, xs, h1, h2, h3⟩ := asL_ok hs rx ea
          obtain ⟨q, ys, g1, g2, g3⟩ := asL_ok hs ry eb
          exact .inr (.inr (.inr (.inr ⟨p, q, xs, ys, h1, g1, h2, g2, by rw [h3.length, g3.length]; exact hl, fun z hz => k B _ _ (Stp.new hs hz) (hs.new hz) (RV.newLst hs hz (h3.append g3))⟩)))
        · cases e
      · cases e
    · cases e
theorem ok_sub : Ok2 P w K (rI0 (fun i j => .int (i - j))) subD := by
  intro B S H x y dx dy d S' Q hs rx ry e k
  unfold subD at e
  split at e
  · cases e; exact ⟨_, _, rx.intI, ry.intI, k B _ H (Stp.refl ..) hs (.int _)⟩
  · cases e
theorem ok_mul : Ok2 P w K (rI CMul fun i j => .int (i * j)) mulD := by
  intro B S H x y dx dy d S' Q hs rx ry e k
  unfold mulD at e
  split at e
  · split at e
    · rename_i hc
      cases e; exact ⟨_, _, rx.intI, ry.intI, hc, k B _ H (Stp.refl ..) hs (.int _)⟩
    · cases e
  · cases e
theorem ok_fdiv : Ok2 P w K (rI CDivN fun i j => .int (i.fdiv j)) fdivD := by
  intro B S H x y dx dy d S' Q hs rx ry e k
  unfold fdivD at e
  split at e
  · split at e
    · rename_i hc
      cases e; exact ⟨_, _, rx.intI, ry.intI, hc, k B _ H (Stp.refl ..) hs (.int _)⟩
    · cases e
  · cases e
theorem ok_mod : Ok2 P w K (rI (fun _ j => j ≠ 0) fun i j => .int (i.fmod j)) modD := by
  intro B S H x y dx dy d S' Q hs rx ry e k
  unfold modD at e
  split at e
  · split at e
    · rename_i hc
      cases e; exact ⟨_, _, rx.intI, ry.intI, hc, k B _ H (Stp.refl ..) hs (.int _)⟩
    · cases e
  · cases e
theorem ok_pow : Ok2 P w K (rI CPow fun i j => .int (i ^ j.toNat)) powD := by
  intro B S H x y dx dy d S' Q hs rx ry e k
  unfold powD at e
  split at e
  · split at e
    · rename_i hc
      cases e; exact ⟨_, _, rx.intI, ry.intI, hc, k B _ H (Stp.refl ..) hs (.int _)⟩
    · cases e
  · cases e
theorem ok_neg : Ok1 P w K (rU fun i => .int (-i)) negD := by
  intro B S H x dx d S' Q hs rx e k
  unfold negD at e
  split at e
  · cases e; exact ⟨_, rx.intI, k B _ H (Stp.refl ..) hs (.int _)⟩
  · cases e
end
section
variable {X : Cx} {a b : Expr} {ca cb : DE} {pos : Pos}
theorem pd_add (ha : PD X a ca) (hb : PD X b cb) : PD X (.BinOp a .Add b pos) (cBin addD ca cb) := pd_op (op_add.or (op_add_ib.or (op_add_str.or (op_catA.or op_cat)))) ok_add ha hb
theorem pd_sub (ha : PD X a ca) (hb : PD X b cb) : PD X (.BinOp a .Sub b pos) (cBin subD ca cb) := pd_op op_sub ok_sub ha hb
theorem pd_mul (ha : PD X a ca) (hb : PD X b cb) : PD X (.BinOp a .Mult b pos) (cBin mulD ca cb) := pd_op op_mul ok_mul ha hb
theorem pd_fdiv (ha : PD X a ca) (hb : PD X b cb) : PD X (.BinOp a .FloorDiv b pos) (cBin fdivD ca cb) := pd_op op_fdivN ok_fdiv ha hb
theorem pd_mod (ha : PD X a ca) (hb : PD X b cb) : PD X (.BinOp a .Mod b pos) (cBin modD ca cb) := pd_op op_modN ok_mod ha hb
theorem pd_pow (ha : PD X a ca) (hb : PD X b cb) : PD X (.BinOp a .Pow b pos) (cBin powD ca cb) := pd_op op_pow ok_pow ha hb
theorem pd_neg (ha : PD X a ca) : PD X (.UnaryOp .USub a pos) (cUn negD ca) := pd_un un_neg ok_neg ha
end

/-! ### comparisons -/
/-- == of what == tells apart plainly -/
def eqS : D → D → Option Bool := fun x y => match x, y with
  | .non, .non => some true
  | .non, .int _ => some false
  | .int _, .non => some false
  | .non, .bl _ => some false
  | .bl _, .non => some false
  | .non, .str _ => some false
  | .str _, .non => some false
  | .int a, .int b => some (decide (a = b))
  | .bl a, .bl b => some (decide (a = b))
  | .str a, .str b => some (decide (a = b))
  | .int _, .str _ => some false
  | .str _, .int _ => some false
  | .bl _, .str _ => some false
  | .str _, .bl _ => some false
  | _, _ => none
def eqD : D → D → Store → Option (D × Store) := fun x y S => (eqS x y).map fun b => (.bl b, S)
def neD : D → D → Store → Option (D × Store) := fun x y S => (eqS x y).map fun b => (.bl (!b), S)
def cmpD (p : Int → Int → Bool) : D → D → Store → Option (D × Store) := fun x y S => match x, y with
  | .int a, .int b => some (.bl (p a b), S)
  | _, _ => none
def isND : D → D → Store → Option (D × Store) := fun x y S => match y with
  | .non => (match x with
    | .non => some (.bl true, S)
    | _ => some (.bl false, S))
  | _ => none
def notND : D → D → Store → Option (D × Store) := fun x y S => match y with
  | .non => (match x with
    | .non => some (.bl false, S)
    | _ => some (.bl true, S))
  | _ => none
section
variable {P : Program} {w : World} {K : PySem.W.Frag} {B : Wd} {S : Store} {H : Hp}
theorem eqS_ok {x y : V} {dx dy : D} {b : Bool} (rx : RV K B S H x dx) (ry : RV K B S H y dy) (e : eqS dx dy = some b) : scal x y = true ∧ decide (x = y) = b := by
  unfold eqS at e
  split at e <;> first
    | (simp at e; done)
    | (cases rx; cases ry; cases e; exact ⟨rfl, by simp⟩)
theorem ok_eq : Ok2 P w K rEq eqD := by
  intro B S H x y dx dy d S' Q hs rx ry e k
  unfold eqD at e
  obtain ⟨b, e1, e2⟩ := Option.map_eq_some_iff.mp e
  cases e2
  obtain ⟨h1, h2⟩ := eqS_ok rx ry e1
  exact ⟨h1, by rw [h2]; exact k B _ H (Stp.refl ..) hs (.bl _)⟩
theorem ok_ne : Ok2 P w K rNe neD := by
  intro B S H x y dx dy d S' Q hs rx ry e k
  unfold neD at e
  obtain ⟨b, e1, e2⟩ := Option.map_eq_some_iff.mp e
  cases e2
  obtain ⟨h1, h2⟩ := eqS_ok rx ry e1
  exact ⟨h1, by rw [h2]; exact k B _ H (Stp.refl ..) hs (.bl _)⟩
theorem ok_cmp {p : Int → Int → Bool} : Ok2 P w K (rI0 fun i j => .bl (p i j)) (cmpD p) := by
  intro B S H x y dx dy d S' Q hs rx ry e k
  unfold cmpD at e
  split at e
  · cases e; exact ⟨_, _, rx.intI, ry.intI, k B _ H (Stp.refl ..) hs (.bl _)⟩
  · cases e
theorem RV.non_iff {x : V} {dx : D} (r : RV K B S H x dx) : decide (x = .non) = (match dx with | .non => true | _ => false) := by
  cases r <;> simp
theorem ok_isN : Ok2 P w K (fun x y H Q => y = .non ∧ Q (.bl (decide (x = .non))) H) isND := by
  intro B S H x y dx dy d S' Q hs rx ry e k
  unfold isND at e
  split at e
  · refine ⟨ry.nonI, ?_⟩
    rw [rx.non_iff]
    split at e
    · cases e; exact k B _ H (Stp.refl ..) hs (.bl _)
    · rename_i hn
      cases e
      cases dx <;> first
        | exact absurd rfl hn
        | exact k B _ H (Stp.refl ..) hs (.bl _)
  · cases e
theorem ok_notN : Ok2 P w K (fun x y H Q => y = .non ∧ Q (.bl (!decide (x = .non))) H) notND := by
  intro B S H x y dx dy d S' Q hs rx ry e k
  unfold notND at e
  split at e
  · refine ⟨ry.nonI, ?_⟩
    rw [rx.non_iff]
    split at e
    · cases e; exact k B _ H (Stp.refl ..) hs (.bl _)
    · rename_i hn
      cases e
      cases dx <;> first
        | exact absurd rfl hn
        | exact k B _ H (Stp.refl ..) hs (.bl _)
  · cases e
end
abbrev ltD := cmpD fun i j => decide (i < j)
abbrev leD := cmpD fun i j => decide (i ≤ j)
abbrev gtD := cmpD fun i j => decide (j < i)
abbrev geD := cmpD fun i j => decide (j ≤ i)
section
variable {X : Cx} {a b c : Expr} {ca cb cc : DE} {pos : Pos}
theorem pd_lt (ha : PD X a ca) (hb : PD X b cb) : PD X (.Compare a [.Lt] [b] pos) (cBin ltD ca cb) := pd_cmp op_lt ok_cmp (nomark _) ha hb
theorem pd_le (ha : PD X a ca) (hb : PD X b cb) : PD X (.Compare a [.LtE] [b] pos) (cBin leD ca cb) := pd_cmp op_le ok_cmp (nomark _) ha hb
theorem pd_gt (ha : PD X a ca) (hb : PD X b cb) : PD X (.Compare a [.Gt] [b] pos) (cBin gtD ca cb) := pd_cmp op_gt ok_cmp (nomark _) ha hb
theorem pd_ge (ha : PD X a ca) (hb : PD X b cb) : PD X (.Compare a [.GtE] [b] pos) (cBin geD ca cb) := pd_cmp op_ge ok_cmp (nomark _) ha hb
theorem pd_eq (ha : PD X a ca) (hb : PD X b cb) : PD X (.Compare a [.Eq] [b] pos) (cBin eqD ca cb) := pd_cmp op_eq ok_eq (nomark _) ha hb
theorem pd_ne (ha : PD X a ca) (hb : PD X b cb) : PD X (.Compare a [.NotEq] [b] pos) (cBin neD ca cb) := pd_cmp op_ne ok_ne (nomark _) ha hb
theorem pd_isN (ha : PD X a ca) (hb : PD X b cb) : PD X (.Compare a [.Is] [b] pos) (cBin isND ca cb) := pd_cmp op_isN ok_isN (nomark _) ha hb
theorem pd_notN (ha : PD X a ca) (hb : PD X b cb) : PD X (.Compare a [.IsNot] [b] pos) (cBin notND ca cb) := pd_cmp op_notN ok_notN (nomark _) ha hb
theorem pdt_lt (ha : PD X a ca) (hb : PD X b cb) : PDT X (.Compare a [.Lt] [b] pos) (cB (cBin ltD ca cb)) := pdt_cmp op_lt ok_cmp (nomark _) ha hb
theorem pdt_le (ha : PD X a ca) (hb : PD X b cb) : PDT X (.Compare a [.LtE] [b] pos) (cB (cBin leD ca cb)) := pdt_cmp op_le ok_cmp (nomark _) ha hb
theorem pdt_gt (ha : PD X a ca) (hb : PD X b cb) : PDT X (.Compare a [.Gt] [b] pos) (cB (cBin gtD ca cb)) := pdt_cmp op_gt ok_cmp (nomark _) ha hb
theorem pdt_ge (ha : PD X a ca) (hb : PD X b cb) : PDT X (.Compare a [.GtE] [b] pos) (cB (cBin geD ca cb)) := pdt_cmp op_ge ok_cmp (nomark _) ha hb
theorem pdt_eq (ha : PD X a ca) (hb : PD X b cb) : PDT X (.Compare a [.Eq] [b] pos) (cB (cBin eqD ca cb)) := pdt_cmp op_eq ok_eq (nomark _) ha hb
theorem pdt_ne (ha : PD X a ca) (hb : PD X b cb) : PDT X (.Compare a [.NotEq] [b] pos) (cB (cBin neD ca cb)) := pdt_cmp op_ne ok_ne (nomark _) ha hb
theorem pdt_isN (ha : PD X a ca) (hb : PD X b cb) : PDT X (.Compare a [.Is] [b] pos) (cB (cBin isND ca cb)) := pdt_cmp op_isN ok_isN (nomark _) ha hb
theorem pdt_notN (ha : PD X a ca) (hb : PD X b cb) : PDT X (.Compare a [.IsNot] [b] pos) (cB (cBin notND ca cb)) := pdt_cmp op_notN ok_notN (nomark _) ha hb
/-- a <= b <= c, of ints -/
def cChain (f g : D → D → Store → Option (D × Store)) (a b c : DE) : DE := fun ρ S => match a ρ S with
  | some (x, S1) => (match b ρ S1 with
    | some (y, S2) => (match f x y S2 with
      | some (.bl true, S3) => (match c ρ S3 with
        | some (z, S4) => g y z S4
        | none => none)
      | some (.bl false, S3) => some (.bl false, S3)
      | _ => none)
    | none => none)
  | none => none
theorem pd_chain {op op' : CmpOp} {r r' : R2} {f g : D → D → Store → Option (D × Store)} (h : PE X (.Compare a [op, op'] [b, c] pos) (tChain r r' (tD X.prog X.w X.K ca) (tD X.prog X.w X.K cb) (tD X.prog X.w X.K cc))) (hf : Ok2 X.prog X.w X.K r f) (hg : Ok2 X.prog X.w X.K r' g) :
    PD X (.Compare a [op, op'] [b, c] pos) (cChain f g ca cb cc) := pe_imp h fun σ H Q ⟨B, ρ, S, d, S', hs, he, e, k⟩ => by
  unfold cChain at e
  split at e
  · rename_i x S1 e1
    split at e
    · rename_i y S2 e2
      refine ⟨B, ρ, S, x, S1, hs, he, e1, fun B1 v1 H1 st1 hs1 r1 => ⟨B1, ρ, S1, y, S2, hs1, he.mono st1, e2, fun B2 v2 H2 st2 hs2 r2 => ?_⟩⟩
      split at e
      · rename_i S3 e3
        refine hf B2 S2 H2 v1 v2 x y _ S3 _ hs2 (RV.mono st2 _ _ r1) r2 e3 fun B3 v3 H3 st3 hs3 r3 => ?_
        cases r3
        refine ⟨_, rfl, iteT ?_⟩
        split at e
        · rename_i z S4 e4
          refine ⟨B3, ρ, S3, z, S4, hs3, he.mono ((st1.trans st2).trans st3), e4, fun B4 v4 H4 st4 hs4 r4 => ?_⟩
          exact hg B4 S4 H4 v2 v4 y z d S' _ hs4 (RV.mono (st3.trans st4) _ _ r2) r4 e fun B5 v5 H5 st5 hs5 r5 => k B5 v5 H5 ((((st1.trans st2).trans st3).trans st4).trans st5) hs5 r5
        · cases e
      · rename_i S3 e3
        cases e
        refine hf B2 S2 H2 v1 v2 x y _ _ _ hs2 (RV.mono st2 _ _ r1) r2 e3 fun B3 v3 H3 st3 hs3 r3 => ?_
        cases r3
        exact ⟨_, rfl, iteF (k B3 _ H3 ((st1.trans st2).trans st3) hs3 (.bl _))⟩
      · cases e
    · cases e
  · cases e
end

/-! ### subscripts, slices -/
def ixD : D → D → Store → Option (D × Store) := fun x y S => match x, y with
  | .tup xs, .int i => (atI xs i).map fun d => (d, S)
  | .str z, .int i => if z.length ≤ sizeLine then (atI z.cps.toList i).map fun c => (.str ⟨#[c]⟩, S) else none
  | x, .int i => (match asQ S x with
    | some xs => (atI xs i).map fun d => (d, S)
    | none => none)
  | _, _ => none
theorem RVs.atI {K : PySem.W.Frag} {B : Wd} {S : Store} {H : Hp} {ds : List D} {vs : List V} {i : Int} {d : D} (r : RVs K B S H vs ds) (e : L2.atI ds i = some d) : ∃ v, L2.atI vs i = some v ∧ RV K B S H v d := by
  unfold L2.atI at e ⊢
  rw [r.length]
  cases q : L2.ixN ds.length i with
  | none => rw [q] at e; cases e
  | some j =>
    rw [q] at e
    exact r.get e
theorem ok_ix {P : Program} {w : World} {K : PySem.W.Frag} : Ok2 P w K (rIx K) ixD := by
  intro B S H x y dx dy d S' Q hs rx ry e k
  unfold ixD at e
  split at e
  · obtain ⟨z, e1, e2⟩ := Option.map_eq_some_iff.mp e
    cases e2
    obtain ⟨a, xs, ea, ha, qa⟩ := rx.tupI
    obtain ⟨v, h1, h2⟩ := qa.atI e1
    exact .inr (.inl ⟨a, xs, _, v, ea, ry.intI, ha, h1, k B _ H (Stp.refl ..) hs h2⟩)
  · split at e
    · rename_i hl
      obtain ⟨z, e1, e2⟩ := Option.map_eq_some_iff.mp e
      cases e2
      exact .inr (.inr ⟨_, _, z, rx.strI, ry.intI, hl, e1, k B _ H (Stp.refl ..) hs (.str _)⟩)
    · cases e
  · split at e
    · rename_i xs ex
      obtain ⟨z, e1, e2⟩ := Option.map_eq_some_iff.mp e
      cases e2
      obtain ⟨a, us, ea, ha, qa⟩ := asQ_ok hs rx ex
      obtain ⟨v, h1, h2⟩ := qa.atI e1
      exact .inl ⟨a, us, _, v, ea, ry.intI, ha, h1, k B _ H (Stp.refl ..) hs h2⟩
    · cases e
  · cases e
theorem pd_ix {X : Cx} {a b : Expr} {ca cb : DE} {pos : Pos} (ha : PD X a ca) (hb : PD X b cb) (hs : PlainIx b := by exact fun _ _ => rfl) : PD X (.Subscript a b pos) (cBin ixD ca cb) :=
  pe_imp (pe_ix ix_seq ha hb hs) fun σ H Q h => tD_bin h fun B S H x y dx dy d S' hs rx ry e k => ok_ix B S H x y dx dy d S' Q hs rx ry e k
def cutD (xs : List D) (lo hi : Option Int) : List D := (xs.drop (HT.sIx xs.length 0 lo)).take (HT.sIx xs.length xs.length hi - HT.sIx xs.length 0 lo)
theorem RVs.cutD {K : PySem.W.Frag} {B : Wd} {S : Store} {H : Hp} {ds : List D} {vs : List V} (lo hi : Option Int) (r : RVs K B S H vs ds) : RVs K B S H (cutV vs lo hi) (cutD ds lo hi) := by
  unfold cutV DL.cutD
  rw [r.length]
  exact (r.drop _).take _
/-- a slice; bx: whether the new list is a cell -/
def slD (bx : Bool) (x : D) (lo hi : Option Int) (S : Store) : Option (D × Store) := match x with
  | .tup xs => some (.tup (cutD xs lo hi), S)
  | x => (match asQ S x with
    | some xs => if bx = true then some (.ref S.length, S ++ [.lst (cutD xs lo hi)]) else some (.lst (cutD xs lo hi), S)
    | none => none)
/-- a part of a slice -/
abbrev DO := Env' → Store → Option (Option Int × Store)
def oNo : DO := fun _ S => some (none, S)
def oSome (c : DE) : DO := fun ρ S => match c ρ S with
  | some (.int i, S') => some (some i, S')
  | _ => none
def tO (P : Program) (w : World) (K : PySem.W.Frag) (c : DO) : TO := fun σ H Q => ∃ B ρ S i S', RS P w K B S H ∧ RE K B S H σ ρ ∧ c ρ S = some (i, S') ∧ ∀ B' H', Stp B S H B' S' H' → RS P w K B' S' H' → Q i H'
theorem po_imp {X : Cx} {e : Option Expr} {t t' : TO} (h : PO X e t) (i : ∀ σ H Q, t' σ H Q → t σ H Q) : PO X e t' := ⟨fun pins s σ H Q I hw => h.run pins s σ H Q I (i σ H Q hw)⟩
theorem pdo_none {X : Cx} : PO X none (tO X.prog X.w X.K oNo) := po_imp po_none fun σ H Q ⟨B, ρ, S, i, S', hs, he, e, k⟩ => by
  cases e
  exact k B H (Stp.refl ..) hs
theorem pdo_some {X : Cx} {e : Expr} {c : DE} (h : PD X e c) : PO X (some e) (tO X.prog X.w X.K (oSome c)) := po_imp (po_some h) fun σ H Q ⟨B, ρ, S, i, S', hs, he, e, k⟩ => by
  unfold oSome at e
  split at e
  · rename_i j S1 e1
    cases e
    exact ⟨B, ρ, S, _, _, hs, he, e1, fun B' v H' st hs' r => ⟨j, r.intI, k B' H' st hs'⟩⟩
  · cases e
def cSl (bx : Bool) (a : DE) (lo hi : DO) : DE := fun ρ S => match a ρ S with
  | some (x, S1) => (match lo ρ S1 with
    | some (l, S2) => (match hi ρ S2 with
      | some (u, S3) => slD bx x l u S3
      | none => none)
    | none => none)
  | none => none
theorem cut_whole {xs : List D} {lo hi : Option Int} (h : HT.sIx xs.length 0 lo = 0 ∧ HT.sIx xs.length xs.length hi = xs.length) : cutD xs lo hi = xs := by
  unfold cutD
  rw [h.1, h.2]
  simp
theorem pd_slice {X : Cx} {e : Expr} {lo hi : Option Expr} {c : DE} {cl ch : DO} {bx : Bool} {p2 pos : Pos} (he : PD X e c) (hl : PO X lo (tO X.prog X.w X.K cl)) (hh : PO X hi (tO X.prog X.w X.K ch)) : PD X (.Subscript e (.Slice lo hi none p2) pos) (cSl bx c cl ch) :=
  pe_imp (pe_slice (sl_tupA.or sl_list) he hl hh) fun σ H Q ⟨B, ρ, S, d, S', hs, he, e, k⟩ => by
    unfold cSl at e
    split at e
    · rename_i x S1 e1
      split at e
      · rename_i l S2 e2
        split at e
        · rename_i u S3 e3
          refine ⟨B, ρ, S, x, S1, hs, he, e1, fun B1 v1 H1 st1 hs1 r1 => ⟨B1, ρ, S1, l, S2, hs1, he.mono st1, e2, fun B2 H2 st2 hs2 => ⟨B2, ρ, S2, u, S3, hs2, he.mono (st1.trans st2), e3, fun B3 H3 st3 hs3 => ?_⟩⟩⟩
          have st := (st1.trans st2).trans st3
          have r3 := RV.mono (st2.trans st3) _ _ r1
          unfold slD at e
          split at e
          · cases e
            obtain ⟨a, xs, ea, ha, qa⟩ := r3.tupI
            refine .inl ⟨a, xs, ea, ha, fun h => ?_, fun h p hp => ?_⟩
            · rw [qa.length] at h
              rw [cut_whole h] at k
              rw [← ea]
              exact k B3 _ H3 st hs3 r3
            · exact k B3 _ _ (st.trans (Stp.new hs3 hp)) (hs3.new hp) (RV.newTup hs3 hp (qa.cutD l u))
          · split at e
            · rename_i xs ex
              obtain ⟨a, us, ea, ha, qa⟩ := asQ_ok hs3 r3 ex
              refine .inr ⟨a, us, ea, ha, fun p hp => ?_⟩
              split at e
              · cases e
                obtain ⟨h1, h2, h3⟩ := box_new hs3 (qa.cutD l u) hp
                exact k _ _ _ (st.trans h1) h2 h3
              · cases e
                exact k B3 _ _ (st.trans (Stp.new hs3 hp)) (hs3.new hp) (RV.newLst hs3 hp (qa.cutD l u))
            · cases e
        · cases e
      · cases e
    · cases e
/-- xs[::-1] -/
def revD : D → Store → Option (D × Store) := fun x S => match asQ S x with
  | some xs => some (.lst xs.reverse, S)
  | none => none
theorem pd_rev {X : Cx} {e : Expr} {c : DE} {k : Nat} {p1 p2 p3 pos : Pos} (he : PD X e c) : PD X (.Subscript e (.Slice none none (some (.UnaryOp .USub (.Constant (.int 1) k p1) p2)) p3) pos) (cUn revD c) :=
  pe_imp (pe_revL he) fun σ H Q h => tD_un h fun B S H x dx d S' hs rx e k => by
    unfold revD at e
    split at e
    · rename_i xs ex
      cases e
      obtain ⟨a, us, ea, ha, qa⟩ := asQ_ok hs rx ex
      exact ⟨a, us, ea, ha, fun p hp => k B _ _ (Stp.new hs hp) (hs.new hp) (RV.newLst hs hp qa.reverse)⟩
    · cases e
/-- a cell's list is taken as it is: nobody changes it any more -/
def cFrz (a : DE) : DE := fun ρ S => match a ρ S with
  | some (.ref k, S1) => (match S1[k]? with
    | some (.lst ds) => some (.lst ds, S1.set k .dead)
    | _ => none)
  | r => r
theorem pd_frz {X : Cx} {e : Expr} {c : DE} (he : PD X e c) : PD X e (cFrz c) := pe_imp he fun σ H Q ⟨B, ρ, S, d, S', hs, he, e, k⟩ => by
  unfold cFrz at e
  split at e
  · rename_i j S1 e1
    split at e
    · rename_i ds hd
      cases e
      refine ⟨B, ρ, S, _, _, hs, he, e1, fun B' v H' st hs' r => ?_⟩
      cases r with
      | ref lt => exact k B' _ H' (st.trans (Stp.die hd)) (hs'.die hd) (RV.died hs' hd)
    · cases e
  · exact ⟨B, ρ, S, _, _, hs, he, e, k⟩
end DL

/-! Built-ins by name. -/
namespace DL
open PySem PySem.Spec PyProof.Rows L2

def asInts : List D → Option (List Int)
  | [] => some []
  | .int i :: ds => (asInts ds).map (i :: ·)
  | _ => none
def asBls : List D → Option (List Bool)
  | [] => some []
  | .bl i :: ds => (asBls ds).map (i :: ·)
  | _ => none
section
variable {P : Program} {w : World} {K : PySem.W.Frag} {B : Wd} {S : Store} {H : Hp}
theorem asInts_ok : ∀ {ds : List D} {ns : List Int} {vs : List V}, asInts ds = some ns → RVs K B S H vs ds → vs = ns.map V.int
  | [], _, _, e, r => by cases e; cases r; rfl
  | .int i :: ds, ns, _, e, r => by
    obtain ⟨ms, e1, e2⟩ := Option.map_eq_some_iff.mp (show (asInts ds).map (i :: ·) = some ns from e)
    subst e2
    cases r with
    | cons r1 r2 => rw [asInts_ok e1 r2, r1.intI]; rfl
  | .non :: _, _, _, e, _ => by cases e
  | .bl _ :: _, _, _, e, _ => by cases e
  | .str _ :: _, _, _, e, _ => by cases e
  | .tup _ :: _, _, _, e, _ => by cases e
  | .lst _ :: _, _, _, e, _ => by cases e
  | .scr _ :: _, _, _, e, _ => by cases e
  | .ref _ :: _, _, _, e, _ => by cases e
theorem asInts_len : ∀ {ds : List D} {ns : List Int}, asInts ds = some ns → ns.length = ds.length
  | [], _, e => by cases e; rfl
  | .int i :: ds, ns, e => by
    obtain ⟨ms, e1, e2⟩ := Option.map_eq_some_iff.mp (show (asInts ds).map (i :: ·) = some ns from e)
    subst e2
    simp [asInts_len e1]
  | .non :: _, _, e => by cases e
  | .bl _ :: _, _, e => by cases e
  | .str _ :: _, _, e => by cases e
  | .tup _ :: _, _, e => by cases e
  | .lst _ :: _, _, e => by cases e
  | .scr _ :: _, _, e => by cases e
  | .ref _ :: _, _, e => by cases e
theorem asBls_ok : ∀ {ds : List D} {ns : List Bool} {vs : List V}, asBls ds = some ns → RVs K B S H vs ds → vs = ns.map V.bl
  | [], _, _, e, r => by cases e; cases r; rfl
  | .bl i :: ds, ns, _, e, r => by
    obtain ⟨ms, e1, e2⟩ := Option.map_eq_some_iff.mp (show (asBls ds).map (i :: ·) = some ns from e)
    subst e2
    cases r with
    | cons r1 r2 => rw [asBls_ok e1 r2, r1.blI]; rfl
  | .non :: _, _, _, e, _ => by cases e
  | .int _ :: _, _, _, e, _ => by cases e
  | .str _ :: _, _, _, e, _ => by cases e
  | .tup _ :: _, _, _, e, _ => by cases e
  | .lst _ :: _, _, _, e, _ => by cases e
  | .scr _ :: _, _, _, e, _ => by cases e
  | .ref _ :: _, _, _, e, _ => by cases e
theorem RVs.one {vs : List V} {d : D} (r : RVs K B S H vs [d]) : ∃ v, vs = [v] ∧ RV K B S H v d := by
  cases r with
  | cons r1 r2 => cases r2; exact ⟨_, rfl, r1⟩
theorem RVs.two {vs : List V} {d e : D} (r : RVs K B S H vs [d, e]) : ∃ v u, vs = [v, u] ∧ RV K B S H v d ∧ RV K B S H u e := by
  cases r with
  | cons r1 r2 =>
    cases r2 with
    | cons r2 r3 => cases r3; exact ⟨_, _, rfl, r1, r2⟩
end

def lenD : List D → Store → Option (D × Store) := fun xs S => match xs with
  | [.tup ds] => some (.int ds.length, S)
  | [.str z] => if z.length ≤ sizeLine then some (.int z.length, S) else none
  | [x] => (match asQ S x with
    | some ds => some (.int ds.length, S)
    | none => none)
  | _ => none
def absD : List D → Store → Option (D × Store) := fun xs S => match xs with
  | [.int i] => some (.int (if i < 0 then -i else i), S)
  | _ => none
def intD : List D → Store → Option (D × Store) := fun xs S => match xs with
  | [.int i] => some (.int i, S)
  | [.bl k] => some (.int (if k then 1 else 0), S)
  | _ => none
def strD : List D → Store → Option (D × Store) := fun xs S => match xs with
  | [.int i] => if i.natAbs.log2 < 1920 then some (.str (toString i), S) else none
  | _ => none
def maxL : List Int → Int
  | [] => 0
  | [x] => x
  | x :: xs => max x (maxL xs)
def minL : List Int → Int
  | [] => 0
  | [x] => x
  | x :: xs => min x (minL xs)
theorem maxL_spec : ∀ {xs : List Int}, xs ≠ [] → maxL xs ∈ xs ∧ ∀ y ∈ xs, y ≤ maxL xs
  | [], h => absurd rfl h
  | [x], _ => ⟨by simp [maxL], fun y hy => by simp at hy; simp [maxL, hy]⟩
  | x :: y :: ys, _ => by
    obtain ⟨h1, h2⟩ := maxL_spec (xs := y :: ys) (by simp)
    show max x (maxL (y :: ys)) ∈ _ ∧ ∀ z ∈ _, z ≤ max x (maxL (y :: ys))
    refine ⟨?_, fun z hz => ?_⟩
    · rcases Int.le_total x (maxL (y :: ys)) with h | h
      · rw [Int.max_eq_right h]; exact List.mem_cons_of_mem _ h1
      · rw [Int.max_eq_left h]; exact List.mem_cons_self
    · rcases List.mem_cons.mp hz with e | hz
      · rw [e]; exact Int.le_max_left ..
      · exact Int.le_trans (h2 z hz) (Int.le_max_right ..)
theorem minL_spec : ∀ {xs : List Int}, xs ≠ [] → minL xs ∈ xs ∧ ∀ y ∈ xs, minL xs ≤ y
  | [], h => absurd rfl h
  | [x], _ => ⟨by simp [minL], fun y hy => by simp at hy; simp [minL, hy]⟩
  | x :: y :: ys, _ => by
    obtain ⟨h1, h2⟩ := minL_spec (xs := y :: ys) (by simp)
    show min x (minL (y :: ys)) ∈ _ ∧ ∀ z ∈ _, min x (minL (y :: ys)) ≤ z
    refine ⟨?_, fun z hz => ?_⟩
    · rcases Int.le_total x (minL (y :: ys)) with h | h
      · rw [Int.min_eq_left h]; exact List.mem_cons_self
      · rw [Int.min_eq_right h]; exact List.mem_cons_of_mem _ h1
    · rcases List.mem_cons.mp hz with e | hz
      · rw [e]; exact Int.min_le_left ..
      · exact Int.le_trans (Int.min_le_right ..) (h2 z hz)
/-- one argument that max, min, sum walk -/
def asSeq (S : Store) : D → Option (List D)
  | .tup xs => some xs
  | d => asQ S d
def max2D : List D → Store → Option (D × Store) := fun xs S => match xs with
  | [.int i, .int j] => some (.int (max i j), S)
  | [x] => (match asQ S x with
    | some ds => (match asInts ds with
      | some ns => if ns = [] then none else some (.int (maxL ns), S)
      | none => none)
    | none => none)
  | _ => none
def min2D : List D → Store → Option (D × Store) := fun xs S => match xs with
  | [.int i, .int j] => some (.int (min i j), S)
  | [.tup ds] => (match asInts ds with
    | some ns => if ns = [] then none else some (.int (minL ns), S)
    | none => none)
  | [x] => (match asQ S x with
    | some ds => (match asInts ds with
      | some ns => if ns = [] then none else some (.int (minL ns), S)
      | none => none)
    | none => none)
  | _ => none
def sumD : List D → Store → Option (D × Store) := fun xs S => match xs with
  | [x] => (match asQ S x with
    | some ds => (match asInts ds with
      | some ns => some (.int ns.sum, S)
      | none => none)
    | none => none)
  | _ => none
def allD : List D → Store → Option (D × Store) := fun xs S => match xs with
  | [x] => (match asQ S x with
    | some ds => (match asBls ds with
      | some ns => some (.bl (ns.all id), S)
      | none => none)
    | none => none)
  | _ => none
def anyD : List D → Store → Option (D × Store) := fun xs S => match xs with
  | [x] => (match asQ S x with
    | some ds => (match asBls ds with
      | some ns => some (.bl (ns.any id), S)
      | none => none)
    | none => none)
  | _ => none
def tupleD : List D → Store → Option (D × Store) := fun xs S => match xs with
  | [.tup ds] => some (.tup ds, S)
  | [x] => (match asQ S x with
    | some ds => some (.tup ds, S)
    | none => none)
  | _ => none
def listD (bx : Bool) : List D → Store → Option (D × Store) := fun xs S => match xs with
  | [x] => (match asSeq S x with
    | some ds => if bx = true then some (.ref S.length, S ++ [.lst ds]) else some (.lst ds, S)
    | none => none)
  | _ => none
section
variable {P : Program} {w : World} {K : PySem.W.Frag}
theorem ok_len : OkN P w K (fun xs H Q => ∃ x n, xs = [x] ∧ LenV K x H n ∧ Q (.int n) H) lenD := by
  intro B S H xs dxs d S' Q hs rx e k
  unfold lenD at e
  split at e
  · cases e
    obtain ⟨v, rfl, r⟩ := rx.one
    obtain ⟨a, us, rfl, ha, qa⟩ := r.tupI
    exact ⟨_, us.length, rfl, .inr ⟨us, ha, rfl⟩, by rw [qa.length]; exact k B _ H (Stp.refl ..) hs (.int _)⟩
  · split at e
    · rename_i hl
      cases e
      obtain ⟨v, rfl, r⟩ := rx.one
      cases r.strI
      exact ⟨_, _, rfl, ⟨hl, rfl⟩, k B _ H (Stp.refl ..) hs (.int _)⟩
    · cases e
  · split at e
    · rename_i ds ed
      cases e
      obtain ⟨v, rfl, r⟩ := rx.one
      obtain ⟨a, us, rfl, ha, qa⟩ := asQ_ok hs r ed
      exact ⟨_, us.length, rfl, .inl ⟨us, ha, rfl⟩, by rw [qa.length]; exact k B _ H (Stp.refl ..) hs (.int _)⟩
    · cases e
  · cases e
theorem ok_abs : OkN P w K (fun xs H Q => ∃ i, xs = [.int i] ∧ Q (.int (if i < 0 then -i else i)) H) absD := by
  intro B S H xs dxs d S' Q hs rx e k
  unfold absD at e
  split at e
  · cases e
    obtain ⟨v, rfl, r⟩ := rx.one
    cases r.intI
    exact ⟨_, rfl, k B _ H (Stp.refl ..) hs (.int _)⟩
  · cases e
theorem ok_int : OkN P w K (fun xs H Q => (∃ i, xs = [.int i] ∧ Q (.int i) H) ∨ ∃ k, xs = [.bl k] ∧ Q (.int (if k then 1 else 0)) H) intD := by
  intro B S H xs dxs d S' Q hs rx e k
  unfold intD at e
  split at e
  · cases e
    obtain ⟨v, rfl, r⟩ := rx.one
    cases r.intI
    exact .inl ⟨_, rfl, k B _ H (Stp.refl ..) hs (.int _)⟩
  · cases e
    obtain ⟨v, rfl, r⟩ := rx.one
    cases r.blI
    exact .inr ⟨_, rfl, k B _ H (Stp.refl ..) hs (.int _)⟩
  · cases e
theorem ok_str : OkN P w K (fun xs H Q => ∃ i, xs = [.int i] ∧ i.natAbs.log2 < 1920 ∧ Q (.str (toString i)) H) strD := by
  intro B S H xs dxs d S' Q hs rx e k
  unfold strD at e
  split at e
  · split at e
    · rename_i hl
      cases e
      obtain ⟨v, rfl, r⟩ := rx.one
      cases r.intI
      exact ⟨_, rfl, hl, k B _ H (Stp.refl ..) hs (.str _)⟩
    · cases e
  · cases e
theorem ok_max : OkN P w K (fun xs H Q => (∃ i j, xs = [.int i, .int j] ∧ Q (.int (if j > i then j else i)) H) ∨ rMax K xs H Q) max2D := by
  intro B S H xs dxs d S' Q hs rx e k
  unfold max2D at e
  split at e
  · cases e
    obtain ⟨v, u, rfl, r1, r2⟩ := rx.two
    cases r1.intI
    cases r2.intI
    refine .inl ⟨_, _, rfl, ?_⟩
    rename_i i j
    have e : (if j > i then j else i) = max i j := by split <;> omega
    rw [e]
    exact k B _ H (Stp.refl ..) hs (.int _)
  · split at e
    · rename_i ds ed
      split at e
      · rename_i ns en
        split at e
        · cases e
        · rename_i hne
          cases e
          obtain ⟨v, rfl, r⟩ := rx.one
          obtain ⟨a, us, rfl, ha, qa⟩ := asQ_ok hs r ed
          have eu := asInts_ok en qa
          subst eu
          refine .inr ⟨a, ns, rfl, ha, List.length_pos_iff.mpr hne, fun m h1 h2 => ?_⟩
          obtain ⟨g1, g2⟩ := maxL_spec hne
          have em : m = maxL ns := Int.le_antisymm (g2 m h1) (h2 _ g1)
          rw [em]
          exact k B _ H (Stp.refl ..) hs (.int _)
      · cases e
    · cases e
  · cases e
/-- min(t), t a tuple of ints -/
def rMinT (K : PySem.W.Frag) : List V → Hp → VK → Prop := fun vs H Q => ∃ (a : Addr) (ns : List Int), vs = [V.ref a] ∧ SqT K H a (ns.map V.int) ∧ ns ≠ [] ∧ Q (.int (minL ns)) H
theorem ok_min : OkN P w K (fun xs H Q => (∃ i j, xs = [.int i, .int j] ∧ Q (.int (if j < i then j else i)) H) ∨ rMinT K xs H Q ∨ rMin K xs H Q) min2D := by
  intro B S H xs dxs d S' Q hs rx e k
  unfold min2D at e
  split at e
  · cases e
    obtain ⟨v, u, rfl, r1, r2⟩ := rx.two
    cases r1.intI
    cases r2.intI
    refine .inl ⟨_, _, rfl, ?_⟩
    rename_i i j
    have e : (if j < i then j else i) = min i j := by split <;> omega
    rw [e]
    exact k B _ H (Stp.refl ..) hs (.int _)
  · split at e
    · rename_i ns en
      split at e
      · cases e
      · rename_i hne
        cases e
        obtain ⟨v, rfl, r⟩ := rx.one
        obtain ⟨a, us, rfl, ha, qa⟩ := r.tupI
        have eu := asInts_ok en qa
        subst eu
        exact .inr (.inl ⟨a, ns, rfl, ha, hne, k B _ H (Stp.refl ..) hs (.int _)⟩)
    · cases e
  · split at e
    · rename_i ds ed
      split at e
      · rename_i ns en
        split at e
        · cases e
        · rename_i hne
          cases e
          obtain ⟨v, rfl, r⟩ := rx.one
          obtain ⟨a, us, rfl, ha, qa⟩ := asQ_ok hs r ed
          have eu := asInts_ok en qa
          subst eu
          refine .inr (.inr ⟨a, ns, rfl, ha, List.length_pos_iff.mpr hne, fun m h1 h2 => ?_⟩)
          obtain ⟨g1, g2⟩ := minL_spec hne
          have em : m = minL ns := Int.le_antisymm (h2 _ g1) (g2 m h1)
          rw [em]
          exact k B _ H (Stp.refl ..) hs (.int _)
      · cases e
    · cases e
  · cases e
theorem ok_sum : OkN P w K (rSum K) sumD := by
  intro B S H xs dxs d S' Q hs rx e k
  unfold sumD at e
  split at e
  · split at e
    · rename_i ds ed
      split at e
      · rename_i ns en
        cases e
        obtain ⟨v, rfl, r⟩ := rx.one
        obtain ⟨a, us, rfl, ha, qa⟩ := asQ_ok hs r ed
        have eu := asInts_ok en qa
        subst eu
        exact ⟨a, ns, rfl, ha, k B _ H (Stp.refl ..) hs (.int _)⟩
      · cases e
    · cases e
  · cases e
theorem ok_all : OkN P w K (rAll K) allD := by
  intro B S H xs dxs d S' Q hs rx e k
  unfold allD at e
  split at e
  · split at e
    · rename_i ds ed
      split at e
      · rename_i ns en
        cases e
        obtain ⟨v, rfl, r⟩ := rx.one
        obtain ⟨a, us, rfl, ha, qa⟩ := asQ_ok hs r ed
        have eu := asBls_ok en qa
        subst eu
        exact ⟨a, ns, rfl, ha, k B _ H (Stp.refl ..) hs (.bl _)⟩
      · cases e
    · cases e
  · cases e
theorem ok_any : OkN P w K (rAny K) anyD := by
  intro B S H xs dxs d S' Q hs rx e k
  unfold anyD at e
  split at e
  · split at e
    · rename_i ds ed
      split at e
      · rename_i ns en
        cases e
        obtain ⟨v, rfl, r⟩ := rx.one
        obtain ⟨a, us, rfl, ha, qa⟩ := asQ_ok hs r ed
        have eu := asBls_ok en qa
        subst eu
        exact ⟨a, ns, rfl, ha, k B _ H (Stp.refl ..) hs (.bl _)⟩
      · cases e
    · cases e
  · cases e
theorem ok_tuple : OkN P w K (fun xs H Q => ∃ p ys, xs = [.ref p] ∧ ((SqL K H p ys ∧ ∀ l, H l = none → Q (.ref l) (upd H l (.tup ys))) ∨ (SqT K H p ys ∧ Q (.ref p) H))) tupleD := by
  intro B S H xs dxs d S' Q hs rx e k
  unfold tupleD at e
  split at e
  · cases e
    obtain ⟨v, rfl, r⟩ := rx.one
    obtain ⟨a, us, rfl, ha, qa⟩ := id r.tupI
    exact ⟨a, us, rfl, .inr ⟨ha, k B _ H (Stp.refl ..) hs r⟩⟩
  · split at e
    · rename_i ds ed
      cases e
      obtain ⟨v, rfl, r⟩ := rx.one
      obtain ⟨a, us, rfl, ha, qa⟩ := asQ_ok hs r ed
      exact ⟨a, us, rfl, .inl ⟨ha, fun l hl => k B _ _ (Stp.new hs hl) (hs.new hl) (RV.newTup hs hl qa)⟩⟩
    · cases e
  · cases e
theorem asSeq_ok {B : Wd} {S : Store} {H : Hp} {v : V} {d : D} {ds : List D} (hs : RS P w K B S H) (r : RV K B S H v d) (e : asSeq S d = some ds) : ∃ a xs, v = .ref a ∧ (SqL K H a xs ∨ SqT K H a xs) ∧ RVs K B S H xs ds := by
  unfold asSeq at e
  split at e
  · cases e
    obtain ⟨a, us, e1, ha, qa⟩ := r.tupI
    exact ⟨a, us, e1, .inr ha, qa⟩
  · obtain ⟨a, us, e1, ha, qa⟩ := asQ_ok hs r e
    exact ⟨a, us, e1, .inl ha, qa⟩
theorem ok_list {bx : Bool} : OkN P w K (fun xs H Q => ∃ p ys, xs = [.ref p] ∧ (SqL K H p ys ∨ SqT K H p ys) ∧ ∀ l, H l = none → Q (.ref l) (upd H l (.lst ys))) (listD bx) := by
  intro B S H xs dxs d S' Q hs rx e k
  unfold listD at e
  split at e
  · split at e
    · rename_i ds ed
      obtain ⟨v, rfl, r⟩ := rx.one
      obtain ⟨a, us, rfl, ha, qa⟩ := asSeq_ok hs r ed
      refine ⟨a, us, rfl, ha, fun l hl => ?_⟩
      split at e
      · cases e
        obtain ⟨h1, h2, h3⟩ := box_new hs qa hl
        exact k _ _ _ h1 h2 h3
      · cases e
        exact k B _ _ (Stp.new hs hl) (hs.new hl) (RV.newLst hs hl qa)
    · cases e
  · cases e
end
theorem minOf_minL : ∀ (xs : List Int) (x : Int), PySem.W.minOf x xs = minL (x :: xs)
  | [], x => rfl
  | y :: ys, x => by
    have ih := minOf_minL ys (if y < x then y else x)
    have e : PySem.W.minOf x (y :: ys) = PySem.W.minOf (if y < x then y else x) ys := by
      show List.foldl _ (if decide (y < x) = true then y else x) ys = List.foldl _ (if y < x then y else x) ys
      simp only [decide_eq_true_eq]
    rw [e, ih]
    cases ys with
    | nil =>
      show (if y < x then y else x) = min x y
      split <;> omega
    | cons z zs =>
      show min (if y < x then y else x) (minL (z :: zs)) = min x (min y (minL (z :: zs)))
      split <;> omega
section
variable {X : Cx}
theorem cr_minT (hc : X.calm = true) (hu : X.A.units + 64 < cLine) : CallR X (.builtin "min") (rMinT X.K) := by
  intro pins s σ H vs us Q I r h
  obtain ⟨a, ns, rfl, hs, hne, q⟩ := h
  obtain ⟨its, rv, ht, hz⟩ := I.tuple hs
  rw [Vals.ref1 r]
  cases ns with
  | nil => exact absurd rfl hne
  | cons n ns =>
    refine PySem.W.min_tuple_datum (α := Int) (x := n) (xs := ns) (I.ok.hd hc) ht (PySem.W.HoldAll.of_ints rv.ints) (by show X.A.units + 1 + 0 < _; omega) fun i v h' tk hv hh hk => ?_
    have hv' : its[i]? = some v := by simpa using hv
    obtain ⟨x, hx, rx⟩ : ∃ x, (List.map V.int (n :: ns))[i]? = some x ∧ RelV x v := by
      obtain ⟨hl, he⟩ := List.getElem?_eq_some_iff.mp hv'
      have hl2 : i < (List.map V.int (n :: ns)).length := by rw [rv.length]; exact hl
      obtain ⟨u, hu', ru⟩ := rv.get (List.getElem?_eq_getElem hl2)
      rw [hv'] at hu'; cases hu'
      exact ⟨_, List.getElem?_eq_getElem hl2, ru⟩
    rw [List.getElem?_map] at hx
    obtain ⟨j, _, rfl⟩ := Option.map_eq_some_iff.mp hx
    obtain ⟨t, rfl⟩ := rx
    obtain ⟨as, rd⟩ := hh
    have ej : j = PySem.W.minOf n ns := by
      cases rd
      rfl
    refine ⟨.int j, H, I.kept hk, ⟨t, rfl⟩, ?_⟩
    rw [ej, minOf_minL]
    exact q
end

/-! ### the calls -/
section
variable {X : Cx} {a : Expr} {es : List Expr} {p pos : Pos} {cs : DA}
theorem pd_len (hm : X.mg "len" = none) (ha : PDA X (a :: es) cs) (hg : Gl X "len" := by rfl) (he : starEach (a :: es) X.env = (false, eval a X.env) :: starEach es X.env := by rfl) (hpl : (backTo pos (starEach es X.env)).any (·.1) = false := by rfl) : PD X (.Call (.Name "len" p) (a :: es) [] pos) (cApp lenD cs) :=
  pd_callB call_len ok_len hg hm (by decide +kernel) (by decide) (by decide) ha he hpl
theorem pd_abs (hm : X.mg "abs" = none) (ha : PDA X (a :: es) cs) (hg : Gl X "abs" := by rfl) (he : starEach (a :: es) X.env = (false, eval a X.env) :: starEach es X.env := by rfl) (hpl : (backTo pos (starEach es X.env)).any (·.1) = false := by rfl) : PD X (.Call (.Name "abs" p) (a :: es) [] pos) (cApp absD cs) :=
  pd_callB call_abs ok_abs hg hm (by decide +kernel) (by decide) (by decide) ha he hpl
theorem pd_int' (hm : X.mg "int" = none) (ha : PDA X (a :: es) cs) (hg : Gl X "int" := by rfl) (he : starEach (a :: es) X.env = (false, eval a X.env) :: starEach es X.env := by rfl) (hpl : (backTo pos (starEach es X.env)).any (·.1) = false := by rfl) : PD X (.Call (.Name "int" p) (a :: es) [] pos) (cApp intD cs) :=
  pd_callTy call_int1 ok_int hg hm (by decide +kernel) (by decide) (by decide) ha he hpl
theorem pd_str' (hm : X.mg "str" = none) (ha : PDA X (a :: es) cs) (hg : Gl X "str" := by rfl) (he : starEach (a :: es) X.env = (false, eval a X.env) :: starEach es X.env := by rfl) (hpl : (backTo pos (starEach es X.env)).any (·.1) = false := by rfl) : PD X (.Call (.Name "str" p) (a :: es) [] pos) (cApp strD cs) :=
  pd_callTy call_str_int ok_str hg hm (by decide +kernel) (by decide) (by decide) ha he hpl
theorem pd_max (hc : X.calm = true) (hm : X.mg "max" = none) (ha : PDA X (a :: es) cs) (hg : Gl X "max" := by rfl) (he : starEach (a :: es) X.env = (false, eval a X.env) :: starEach es X.env := by rfl) (hpl : (backTo pos (starEach es X.env)).any (·.1) = false := by rfl) : PD X (.Call (.Name "max" p) (a :: es) [] pos) (cApp max2D cs) :=
  pd_callB ((call_max2 hc).or (cr_max hc)) ok_max hg hm (by decide +kernel) (by decide) (by decide) ha he hpl
theorem pd_min (hc : X.calm = true) (hu : X.A.units + 64 < cLine) (hm : X.mg "min" = none) (ha : PDA X (a :: es) cs) (hg : Gl X "min" := by rfl) (he : starEach (a :: es) X.env = (false, eval a X.env) :: starEach es X.env := by rfl) (hpl : (backTo pos (starEach es X.env)).any (·.1) = false := by rfl) : PD X (.Call (.Name "min" p) (a :: es) [] pos) (cApp min2D cs) :=
  pd_callB ((call_min2 hc).or ((cr_minT hc hu).or (cr_min hc))) ok_min hg hm (by decide +kernel) (by decide) (by decide) ha he hpl
theorem pd_sum (hc : X.calm = true) (hm : X.mg "sum" = none) (ha : PDA X (a :: es) cs) (hg : Gl X "sum" := by rfl) (he : starEach (a :: es) X.env = (false, eval a X.env) :: starEach es X.env := by rfl) (hpl : (backTo pos (starEach es X.env)).any (·.1) = false := by rfl) : PD X (.Call (.Name "sum" p) (a :: es) [] pos) (cApp sumD cs) :=
  pd_callB (cr_sum hc) ok_sum hg hm (by decide +kernel) (by decide) (by decide) ha he hpl
theorem pd_all (hc : X.calm = true) (hm : X.mg "all" = none) (ha : PDA X (a :: es) cs) (hg : Gl X "all" := by rfl) (he : starEach (a :: es) X.env = (false, eval a X.env) :: starEach es X.env := by rfl) (hpl : (backTo pos (starEach es X.env)).any (·.1) = false := by rfl) : PD X (.Call (.Name "all" p) (a :: es) [] pos) (cApp allD cs) :=
  pd_callB (cr_all hc) ok_all hg hm (by decide +kernel) (by decide) (by decide) ha he hpl
theorem pd_any (hc : X.calm = true) (hm : X.mg "any" = none) (ha : PDA X (a :: es) cs) (hg : Gl X "any" := by rfl) (he : starEach (a :: es) X.env = (false, eval a X.env) :: starEach es X.env := by rfl) (hpl : (backTo pos (starEach es X.env)).any (·.1) = false := by rfl) : PD X (.Call (.Name "any" p) (a :: es) [] pos) (cApp anyD cs) :=
  pd_callB (cr_any hc) ok_any hg hm (by decide +kernel) (by decide) (by decide) ha he hpl
theorem pd_tuple (hm : X.mg "tuple" = none) (ha : PDA X (a :: es) cs) (hg : Gl X "tuple" := by rfl) (he : starEach (a :: es) X.env = (false, eval a X.env) :: starEach es X.env := by rfl) (hpl : (backTo pos (starEach es X.env)).any (·.1) = false := by rfl) : PD X (.Call (.Name "tuple" p) (a :: es) [] pos) (cApp tupleD cs) :=
  pd_callTy call_tuple_of ok_tuple hg hm (by decide +kernel) (by decide) (by decide) ha he hpl
theorem pd_list {bx : Bool} (hm : X.mg "list" = none) (ha : PDA X (a :: es) cs) (hg : Gl X "list" := by rfl) (he : starEach (a :: es) X.env = (false, eval a X.env) :: starEach es X.env := by rfl) (hpl : (backTo pos (starEach es X.env)).any (·.1) = false := by rfl) : PD X (.Call (.Name "list" p) (a :: es) [] pos) (cApp (listD bx) cs) :=
  pd_callTy call_list_of ok_list hg hm (by decide +kernel) (by decide) (by decide) ha he hpl
end

/-! ### isinstance(x, T) -/
def tyD (S : Store) : D → Option String
  | .non => some "NoneType"
  | .bl _ => some "bool"
  | .int _ => some "int"
  | .str _ => some "str"
  | .tup _ => some "tuple"
  | .lst _ => some "list"
  | .scr _ => none
  | .ref k => (match S[k]? with
    | some (.lst _) => some "list"
    | some (.dK false _) => some "dict"
    | _ => none)
def isiD (T : String) : D → Store → Option (D × Store) := fun x S => match tyD S x with
  | some t => (match kitB t T with
    | some b => some (.bl b, S)
    | none => none)
  | none => none
theorem SqT.none_at {K : PySem.W.Frag} {a : Addr} {xs : List V} (h : ∀ H', SqT K H' a xs) : ∃ o, K.lookup a = some o ∧ o.cls = .type "tuple" := by
  rcases h (fun _ => none) with (q | ⟨o, q⟩) | ⟨o, its, n, h1, h2, _⟩
  · cases q
  · cases q
  · exact ⟨o, h1, h2⟩
theorem tyD_ok {P : Program} {w : World} {K : PySem.W.Frag} {B : Wd} {S : Store} {H : Hp} {v : V} {d : D} {t : String} (hs : RS P w K B S H) (r : RV K B S H v d) (e : tyD S d = some t) : TyX K H v (.type t) := by
  unfold tyD at e
  cases r with
  | non => cases e; exact .base .non
  | bl b => cases e; exact .base (.bl b)
  | int i => cases e; exact .base (.int i)
  | str x => cases e; exact .base (.str x)
  | tup h n q => cases e; exact .base (.tup h)
  | tupK h q =>
    cases e
    obtain ⟨o, h1, h2⟩ := SqT.none_at h
    exact .kTuple h1 h2
  | lst h n q => cases e; exact .base (.lst h)
  | lstF h n q => cases e
  | lstK h q => cases e
  | ref lt =>
    simp only at e
    split at e
    · rename_i xs hx
      cases e
      obtain ⟨us, h, _⟩ := hs.cel _ _ hx
      exact .base (.lst h)
    · rename_i kvs hx
      cases e
      obtain ⟨kxs, _, h⟩ := hs.cel _ _ hx
      exact .base (.dK (by simpa using h))
    · cases e
theorem pd_isi {X : Cx} {a : Expr} {ca : DE} {T : Str} {t : String} {p p2 pos : Pos} (hm : X.mg "isinstance" = none) (ha : PD X a ca) (hT : X.mg T = none) (hb : bootBuiltins T = some (.type t)) (hn : T ≠ "__name__" := by decide) (hdd : (T == ("__debug__" : Str)) = false := by decide)
    (hgT : Gl X T := by rfl) (hg : Gl X "isinstance" := by rfl) (hs1 : starEach (a :: [.Name T p2]) X.env = (false, eval a X.env) :: starEach [.Name T p2] X.env := by rfl) (hs2 : starEach ((.Name T p2) :: []) X.env = (false, eval (.Name T p2) X.env) :: starEach [] X.env := by rfl)
    (hpl : (backTo pos (starEach [.Name T p2] X.env)).any (·.1) = false := by rfl) : PD X (.Call (.Name "isinstance" p) [a, .Name T p2] [] pos) (cUn (isiD t) ca) :=
  pe_imp (pe_callB call_isi hg hm (by decide +kernel) (pa_cons ha (pa_cons (pe_bltn (v := .ty t) hgT hT hb rfl hn hdd) pa_nil hs2) hs1) (by decide) (by decide) hs1 hpl) fun σ H Q h =>
    tD_un (R := fun x H1 => rIsi X.K [x, .ty t] H1 Q) h fun B S H x dx d S' hs rx e k => by
      unfold isiD at e
      split at e
      · rename_i u eu
        split at e
        · rename_i b eb
          cases e
          exact ⟨x, .ty t, .type u, .type t, b, rfl, .ty t, tyD_ok hs rx eu, kit_ty eb, k B _ H (Stp.refl ..) hs (.bl _)⟩
        · cases e
      · cases e
end DL

/-! What loops walk; comprehensions. -/
namespace DL
open PySem PySem.Spec PyProof.Rows L2

/-! ### enumerate of a tuple -/
def IteT (K : PySem.W.Frag) (a : Addr) : It :=
  ⟨fun i H => ∃ (xs : List V) (x : V), SqT K H a xs ∧ xs[i]? = some x, fun i H v H' => ∃ T x, v = .ref T ∧ H T = none ∧ H' = upd H T (.tup [.int (i : Nat), x]) ∧ ∀ xs, SqT K H a xs → xs[i]? = some x, fun i H => ∃ xs : List V, SqT K H a xs ∧ xs.length ≤ i⟩
section
variable {prog : Program} {w : World} {A : Around} {s : Shared} {E : Value → Shared → Prop}
end

/-! ### a walked list or tuple -/
/-- a walk over a list or a tuple, whichever it is -/
def iSeq (K : PySem.W.Frag) (tl : TE) : TI := fun σ H R => tl σ H fun x H1 => ∃ a, x = .ref a ∧ (((∃ xs, SqL K H1 a xs) ∧ R (Itl K a) H1) ∨ ((∃ xs, SqT K H1 a xs) ∧ R (Itt K a) H1))
theorem pi_seq {X : Cx} {tg l : Expr} {tl : TE} (hl : PE X l tl) : PI X tg l (iSeq X.K tl) := by
  refine ⟨fun pins s σ H R I h => ?_⟩
  refine thn (hl.run pins s σ H _ I h) fun v s1 ⟨x, H1, I1, r1, q1⟩ => ?_
  obtain ⟨a, e, q⟩ := q1
  subst e
  cases r1
  rcases q with ⟨⟨xs, hq⟩, q⟩ | ⟨⟨xs, hq⟩, q⟩
  · obtain ⟨its, rv, p, hz⟩ := I1.list hq
    refine wpAny_pyIter_list p.isList ?_
    refine ⟨s1.heap.objs.size, [s1.heap.objs.size], _, _, H1, rfl, I1.kept (t' := s1.toks) fun b o e => Heap.get?_push_of_some _ e, turn_list a _, ⟨_, Heap.get?_push_size _ rfl, rfl, rfl⟩, fun b hb => ?_, q⟩
    have e : b = s1.heap.objs.size := by simpa using hb
    subst e
    exact I1.fpOk (Nat.le_refl _) (I1.hok.fresh (Nat.le_refl _))
  · obtain ⟨its, rv, p, hz⟩ := I1.tuple hq
    refine wpAny_pyIter_tuple (show s1.heap.IsTuple a its.toArray from p) ?_
    refine ⟨s1.heap.objs.size, [s1.heap.objs.size], _, _, H1, rfl, I1.kept (t' := s1.toks) fun b o e => Heap.get?_push_of_some _ e, turn_tuple a _, ⟨_, Heap.get?_push_size _ rfl, rfl, rfl⟩, fun b hb => ?_, q⟩
    have e : b = s1.heap.objs.size := by simpa using hb
    subst e
    exact I1.fpOk (Nat.le_refl _) (I1.hok.fresh (Nat.le_refl _))
/-- the items of a list, of a tuple; a cell's list is looked at again each turn -/
def itSeq (S : Store) : D → Option Itm
  | .tup xs => some (xs, none)
  | .lst xs => some (xs, none)
  | .scr xs => some (xs, none)
  | .ref k => (match S[k]? with
    | some (.lst xs) => some (xs, some k)
    | _ => none)
  | _ => none
def cItS (c : DE) : DI := fun ρ S => match c ρ S with
  | some (d, S') => (itSeq S' d).map fun m => (m, S')
  | none => none
section
variable {P : Program} {w : World} {K : PySem.W.Frag} {B : Wd} {S : Store} {H : Hp}
theorem SqL.inj {a : Addr} {xs ys : List V} (h : Rd H a (.lst xs)) (h' : Rd H a (.lst ys)) : xs = ys := by
  rcases h with h | ⟨o, h⟩ <;> rcases h' with h' | ⟨o', h'⟩ <;> rw [h] at h' <;> cases h' <;> rfl
/-- a list that may be read at each later state -/
theorem wlk_list {a : Addr} {ds : List D} {l : Option Nat} (h : ∀ B' S' H', St0 B S H B' S' H' → RS P w K B' S' H' → liveOk l ds S' → ∃ xs, SqL K H' a xs ∧ RVs K B' S' H' xs ds) : Wlk P w K B S H (Itl K a) (ds, l) := by
  intro B' S' H' st hs lv i
  obtain ⟨xs, hx, rx⟩ := h B' S' H' st hs lv
  refine ⟨fun d hd => ?_, fun e => ⟨xs, hx, by rw [rx.length, e]; exact Nat.le_refl _⟩⟩
  obtain ⟨v, hv, rv⟩ := rx.get hd
  refine ⟨⟨xs, v, hx, hv⟩, fun x H'' y => ?_⟩
  obtain ⟨e, y⟩ := y
  subst e
  have := y xs hx
  rw [hv] at this
  cases this
  exact ⟨Stp.refl .., hs, rv⟩
theorem wlk_tup {a : Addr} {ds : List D} {l : Option Nat} (h : ∀ B' S' H', St0 B S H B' S' H' → RS P w K B' S' H' → ∃ xs, SqT K H' a xs ∧ RVs K B' S' H' xs ds) : Wlk P w K B S H (Itt K a) (ds, l) := by
  intro B' S' H' st hs lv i
  obtain ⟨xs, hx, rx⟩ := h B' S' H' st hs
  refine ⟨fun d hd => ?_, fun e => ⟨xs, hx, by rw [rx.length, e]; exact Nat.le_refl _⟩⟩
  obtain ⟨v, hv, rv⟩ := rx.get hd
  refine ⟨⟨xs, v, hx, hv⟩, fun x H'' y => ?_⟩
  obtain ⟨e, y⟩ := y
  subst e
  have := y xs hx
  rw [hv] at this
  cases this
  exact ⟨Stp.refl .., hs, rv⟩
theorem later_tup {a : Addr} {ds : List D} (r : RV K B S H (.ref a) (.tup ds)) : ∀ B' S' H', St0 B S H B' S' H' → RS P w K B' S' H' → ∃ xs, SqT K H' a xs ∧ RVs K B' S' H' xs ds := fun B' S' H' st hs => by
  obtain ⟨b, xs, e, h1, h2⟩ := (RV.mono0 st _ _ r).tupI
  cases e
  exact ⟨xs, h1, h2⟩
theorem later_lst {a : Addr} {d : D} {ds : List D} {l : Option Nat} (r : RV K B S H (.ref a) d) (e : itSeq S d = some (ds, l)) (hd : ∀ xs, d ≠ .tup xs) : ∀ B' S' H', St0 B S H B' S' H' → RS P w K B' S' H' → liveOk l ds S' → ∃ xs, SqL K H' a xs ∧ RVs K B' S' H' xs ds := fun B' S' H' st hs lv => by
  have r' := RV.mono0 st _ _ r
  unfold itSeq at e
  split at e
  · exact absurd rfl (hd _)
  · cases e
    cases r' with
    | lst h n q => exact ⟨_, SqL.of h, q⟩
  · cases e
    cases r' with
    | lstF h n q => exact ⟨_, .inl (.inr ⟨_, h⟩), q⟩
    | lstK h q => exact ⟨_, h H', q⟩
  · split at e
    · rename_i xs hk
      cases e
      have lv' := lv
      unfold liveOk at lv'
      simp only at lv'
      obtain ⟨us, h, q⟩ := hs.cel _ _ lv'
      generalize ev : (V.ref a) = v at r'
      cases r' with
      | ref lt =>
        cases ev
        exact ⟨us, SqL.of h, q⟩
    · cases e
  · cases e
end
theorem pdi_seq {X : Cx} {tg e : Expr} {c : DE} (h : PD X e c) : PDI X tg e (cItS c) := pi_imp (pi_seq h) fun σ H R ⟨B, ρ, S, m, S', hs, he, e, k⟩ => by
  unfold cItS at e
  split at e
  · rename_i d S1 e1
    obtain ⟨m', e2, e3⟩ := Option.map_eq_some_iff.mp e
    cases e3
    refine ⟨B, ρ, S, d, _, hs, he, e1, fun B' v H' st hs' r => ?_⟩
    obtain ⟨ds, l⟩ := m
    by_cases ht : ∃ xs, d = .tup xs
    · obtain ⟨xs, rfl⟩ := ht
      cases e2
      obtain ⟨a, us, rfl, ha, _⟩ := r.tupI
      exact ⟨a, rfl, .inr ⟨⟨us, ha⟩, k B' _ H' st hs' (wlk_tup (later_tup r))⟩⟩
    · have hd : ∀ xs, d ≠ .tup xs := fun xs z => ht ⟨xs, z⟩
      obtain ⟨a, rfl⟩ : ∃ a, v = .ref a := by
        unfold itSeq at e2
        split at e2 <;> first
          | (cases r <;> exact ⟨_, rfl⟩)
          | (cases e2)
      have lv : liveOk l ds S' := by
        unfold itSeq at e2
        split at e2
        · exact absurd rfl (hd _)
        · cases e2; trivial
        · cases e2; trivial
        · split at e2
          · rename_i hk
            cases e2
            exact hk
          · cases e2
        · cases e2
      obtain ⟨us, hu, _⟩ := later_lst (P := X.prog) (w := X.w) r e2 hd B' S' H' (St0.refl ..) hs' lv
      exact ⟨a, rfl, .inl ⟨⟨us, hu⟩, k B' _ H' st hs' (wlk_list (later_lst r e2 hd))⟩⟩
  · cases e

/-! ### range -/
def itRange (lo : Int) (n : Nat) : Itm := ((List.range n).map fun i => D.int (lo + (i : Nat)), none)
def inR1 (j : Int) : Prop := -(2 ^ 62) ≤ j ∧ j < 2 ^ 62
def inR2 (i j : Int) : Prop := -(2 ^ 62) ≤ i ∧ i < 2 ^ 62 ∧ -(2 ^ 62) ≤ j ∧ j < 2 ^ 62
open Classical in
noncomputable def cRng1 (a : DE) : DI := fun ρ S => match a ρ S with
  | some (.int j, S') => if inR1 j then some (itRange 0 j.toNat, S') else none
  | _ => none
open Classical in
noncomputable def cRng2 (a b : DE) : DI := fun ρ S => match a ρ S with
  | some (.int i, S1) => (match b ρ S1 with
    | some (.int j, S') => if inR2 i j then some (itRange i (j - i).toNat, S') else none
    | _ => none)
  | _ => none
theorem wlk_range {P : Program} {w : World} {K : PySem.W.Frag} {B : Wd} {S : Store} {H : Hp} {lo : Int} {n : Nat} : Wlk P w K B S H (Itr lo n) (itRange lo n) := by
  intro B' S' H' st hs lv i
  have el : (itRange lo n).1.length = n := by simp [itRange]
  refine ⟨fun d hd => ?_, fun e => by rw [el] at e; exact Nat.le_of_eq e.symm⟩
  have hi : i < n := by
    have := (List.getElem?_eq_some_iff.mp hd).1
    rw [el] at this
    exact this
  have ed : d = .int (lo + (i : Nat)) := by
    have : (itRange lo n).1[i]? = some (.int (lo + (i : Nat))) := by simp [itRange, hi]
    rw [this] at hd
    exact (Option.some.inj hd).symm
  subst ed
  refine ⟨hi, fun x H'' y => ?_⟩
  obtain ⟨e, y⟩ := y
  subst e y
  exact ⟨Stp.refl .., hs, .int _⟩
theorem pdi_range1 {X : Cx} {tg a : Expr} {c : DE} {p pos : Pos} (hm : X.mg "range" = none) (h : PD X a c) (hg : Gl X "range" := by rfl) (hs : starEach [a] X.env = (false, eval a X.env) :: starEach [] X.env := by rfl) (hs1 : starEach [a] X.env = [(false, eval a X.env)] := by rfl) : PDI X tg (.Call (.Name "range" p) [a] [] pos) (cRng1 c) :=
  pi_imp (pi_range1 hg hm (pa_cons h pa_nil hs) hs1) fun σ H R ⟨B, ρ, S, m, S', hs, he, e, k⟩ => by
    unfold cRng1 at e
    split at e
    · rename_i j S1 e1
      split at e
      · rename_i hj
        have hj : _ ∧ _ := hj
        cases e
        exact ⟨B, ρ, S, _, _, hs, he, e1, fun B' v H' st hs' r => ⟨j, by rw [r.intI], hj.1, hj.2, k B' _ H' st hs' wlk_range⟩⟩
      · cases e
    · cases e
theorem pdi_range2 {X : Cx} {tg a b : Expr} {c c' : DE} {p pos : Pos} (hm : X.mg "range" = none) (h : PD X a c) (h' : PD X b c') (hg : Gl X "range" := by rfl) (hs : starEach [a, b] X.env = (false, eval a X.env) :: starEach [b] X.env := by rfl) (hs2 : starEach [b] X.env = (false, eval b X.env) :: starEach [] X.env := by rfl)
    (hs3 : starEach [a, b] X.env = [(false, eval a X.env), (false, eval b X.env)] := by rfl) (hs4 : starEach [b] X.env = [(false, eval b X.env)] := by rfl) : PDI X tg (.Call (.Name "range" p) [a, b] [] pos) (cRng2 c c') :=
  pi_imp (pi_range2 hg hm (pa_cons h (pa_cons h' pa_nil hs2) hs) hs3 hs4) fun σ H R ⟨B, ρ, S, m, S', hs, he, e, k⟩ => by
    unfold cRng2 at e
    split at e
    · rename_i i S1 e1
      split at e
      · rename_i j S2 e2
        split at e
        · rename_i hj
          cases e
          exact ⟨B, ρ, S, _, _, hs, he, e1, fun B1 v1 H1 st1 hs1 r1 => ⟨B1, ρ, S1, _, _, hs1, he.mono st1, e2, fun B2 v2 H2 st2 hs2 r2 => ⟨i, j, by rw [r1.intI, r2.intI], hj, k B2 _ H2 (st1.trans st2) hs2 wlk_range⟩⟩⟩
        · cases e
      · cases e
    · cases e

/-! ### zip of two lists, of two tuples -/
def itZip (x y : D) : Option Itm := match x, y with
  | .tup xs, .tup ys => some ((xs.zip ys).map fun p => .tup [p.1, p.2], none)
  | .lst xs, .lst ys => some ((xs.zip ys).map fun p => .tup [p.1, p.2], none)
  | _, _ => none
def cZip (a b : DE) : DI := fun ρ S => match a ρ S with
  | some (x, S1) => (match b ρ S1 with
    | some (y, S2) => (itZip x y).map fun m => (m, S2)
    | none => none)
  | none => none
section
variable {P : Program} {w : World} {K : PySem.W.Frag} {B : Wd} {S : Store} {H : Hp}
theorem zip_at {xs ys : List D} {i : Nat} {d : D} (h : ((xs.zip ys).map fun p => D.tup [p.1, p.2])[i]? = some d) : ∃ x y, xs[i]? = some x ∧ ys[i]? = some y ∧ d = .tup [x, y] := by
  rw [List.getElem?_map] at h
  obtain ⟨p, hp, rfl⟩ := Option.map_eq_some_iff.mp h
  obtain ⟨h1, h2⟩ := List.getElem?_zip_eq_some.mp hp
  exact ⟨p.1, p.2, h1, h2, rfl⟩
theorem wlk_zipT {a b : Addr} {xs ys : List D} (ha : ∀ B' S' H', St0 B S H B' S' H' → RS P w K B' S' H' → ∃ us, SqT K H' a us ∧ RVs K B' S' H' us xs) (hb : ∀ B' S' H', St0 B S H B' S' H' → RS P w K B' S' H' → ∃ us, SqT K H' b us ∧ RVs K B' S' H' us ys) :
    Wlk P w K B S H (RZ.ItzT K a b) ((xs.zip ys).map fun p => .tup [p.1, p.2], none) := by
  intro B' S' H' st hs lv i
  obtain ⟨us, hu, ru⟩ := ha B' S' H' st hs
  obtain ⟨vs, hv, rv⟩ := hb B' S' H' st hs
  refine ⟨fun d hd => ?_, fun e => ⟨us, vs, hu, hv, ?_⟩⟩
  · obtain ⟨x, y, hx, hy, rfl⟩ := zip_at hd
    obtain ⟨u, hux, rux⟩ := ru.get hx
    obtain ⟨v, hvy, rvy⟩ := rv.get hy
    refine ⟨⟨us, vs, u, v, hu, hv, hux, hvy⟩, fun z H'' y' => ?_⟩
    obtain ⟨T, p, q, rfl, hT, rfl, g1, g2⟩ := y'
    have e1 := g1 us hu
    have e2 := g2 vs hv
    rw [hux] at e1; cases e1
    rw [hvy] at e2; cases e2
    exact ⟨Stp.new hs hT, hs.new hT, RV.newTup hs hT (.cons rux (.cons rvy .nil))⟩
  · rw [e]
    rw [List.length_map, List.length_zip, ru.length, rv.length]
    omega
theorem wlk_zipL {a b : Addr} {xs ys : List D} (ha : ∀ B' S' H', St0 B S H B' S' H' → RS P w K B' S' H' → ∃ us, SqL K H' a us ∧ RVs K B' S' H' us xs) (hb : ∀ B' S' H', St0 B S H B' S' H' → RS P w K B' S' H' → ∃ us, SqL K H' b us ∧ RVs K B' S' H' us ys) :
    Wlk P w K B S H (Itz K a b) ((xs.zip ys).map fun p => .tup [p.1, p.2], none) := by
  intro B' S' H' st hs lv i
  obtain ⟨us, hu, ru⟩ := ha B' S' H' st hs
  obtain ⟨vs, hv, rv⟩ := hb B' S' H' st hs
  refine ⟨fun d hd => ?_, fun e => ⟨us, vs, hu, hv, ?_⟩⟩
  · obtain ⟨x, y, hx, hy, rfl⟩ := zip_at hd
    obtain ⟨u, hux, rux⟩ := ru.get hx
    obtain ⟨v, hvy, rvy⟩ := rv.get hy
    refine ⟨⟨us, vs, u, v, hu, hv, hux, hvy⟩, fun z H'' y' => ?_⟩
    obtain ⟨T, p, q, rfl, hT, rfl, g1, g2⟩ := y'
    have e1 := g1 us hu
    have e2 := g2 vs hv
    rw [hux] at e1; cases e1
    rw [hvy] at e2; cases e2
    exact ⟨Stp.new hs hT, hs.new hT, RV.newTup hs hT (.cons rux (.cons rvy .nil))⟩
  · rw [e]
    rw [List.length_map, List.length_zip, ru.length, rv.length]
    omega
theorem later_l {a : Addr} {ds : List D} (r : RV K B S H (.ref a) (.lst ds)) : ∀ B' S' H', St0 B S H B' S' H' → RS P w K B' S' H' → ∃ xs, SqL K H' a xs ∧ RVs K B' S' H' xs ds := fun B' S' H' st hs => by
  cases RV.mono0 st _ _ r with
  | lst h n q => exact ⟨_, SqL.of h, q⟩
end
theorem pdi_zip {X : Cx} {a b : Expr} {c c' : DE} {p pos tpos : Pos} {elts : List Expr} {kk : Nat} (hm : X.mg "zip" = none) (h : PD X a c) (h' : PD X b c') (hg : Gl X "zip" := by rfl) (hs : starEach [a, b] X.env = (false, eval a X.env) :: starEach [b] X.env := by rfl) (hs2 : starEach [b] X.env = (false, eval b X.env) :: starEach [] X.env := by rfl)
    (hpl : (backTo pos (starEach [b] X.env)).any (·.1) = false := by rfl) : PDI X (.Tuple elts kk tpos) (.Call (.Name "zip" p) [a, b] [] pos) (cZip c c') :=
  pi_imp (RZ.pi_zipA hg hm (pa_cons h (pa_cons h' pa_nil hs2) hs) hs hpl) fun σ H R ⟨B, ρ, S, m, S', hs, he, e, k⟩ => by
    unfold cZip at e
    split at e
    · rename_i x S1 e1
      split at e
      · rename_i y S2 e2
        obtain ⟨m', e3, e4⟩ := Option.map_eq_some_iff.mp e
        cases e4
        refine ⟨B, ρ, S, _, _, hs, he, e1, fun B1 v1 H1 st1 hs1 r1 => ⟨B1, ρ, S1, _, _, hs1, he.mono st1, e2, fun B2 v2 H2 st2 hs2 r2 => ?_⟩⟩
        have r1' := RV.mono st2 _ _ r1
        have st := st1.trans st2
        unfold itZip at e3
        split at e3
        · cases e3
          obtain ⟨p1, us, rfl, hu, ru⟩ := r1'.tupI
          obtain ⟨p2, vs, rfl, hv, rv⟩ := r2.tupI
          exact ⟨p1, p2, us, vs, rfl, .inr ⟨hu, hv, k B2 _ H2 st hs2 (wlk_zipT (later_tup r1') (later_tup r2))⟩⟩
        · cases e3
          cases id r1' with
          | lst h1 n1 q1 =>
            cases id r2 with
            | lst h2 n2 q2 => exact ⟨_, _, _, _, rfl, .inl ⟨SqL.of h1, SqL.of h2, k B2 _ H2 st hs2 (wlk_zipL (later_l r1') (later_l r2))⟩⟩
        · cases e3
      · cases e
    · cases e
end DL

/-! enumerate of a tuple. -/
namespace DL
open PySem PySem.Spec PyProof.Rows L2
open AutoSeq1 (wpAny_loadPart')
theorem meets_enumerate_newT (l : Addr) (items : Array Value) (n : Nat) (dct : Option Addr) (sl : Array (Option Value)) :
    Meets (Builtin.«enumerate.__new__» ⟨[.type "enumerate", .ref l], []⟩) (fun _ R s => s.heap.get? l = some { cls := .type "tuple", dict := dct, data := .seq items n, slots := sl } ∧
      R (.ok (.ret (.ref (s.heap.push { cls := .type "tuple_iterator", data := .fields #[.ref l, .int 0 0] }).objs.size)))
        { s with heap := (s.heap.push { cls := .type "tuple_iterator", data := .fields #[.ref l, .int 0 0] }).push { cls := .type "enumerate", data := .fields #[.none, .bool false, .ref s.heap.objs.size, rawInt 0, .none, .none] } }) :=
  .of_wp fun prog w A R s h => by
    obtain ⟨hp, g, d, tk, os⟩ := s; obtain ⟨hl, h⟩ := h
    have hsub := sub_enumerate
    have hL : Heap.IsTuple (Shared.heap ⟨hp, g, d, tk, os⟩) l items := ⟨_, hl, rfl, n, rfl⟩
    wp_walk using wpAny_loadPart' hl
    refine wpAny_stack_any fun st => wpAny_pure ?_
    split
    · rename_i c _ _ _ _ _
      cases (c == Value.type "enumerate")
      · wp_walk using wpAny_loadPart' hl, wpAny_pyIter_tuple hL
        exact ⟨_, rfl, h⟩
      · wp_walk using wpAny_loadPart' hl, wpAny_pyIter_tuple hL
        exact ⟨_, rfl, h⟩
    · wp_walk using wpAny_loadPart' hl, wpAny_pyIter_tuple hL
      exact ⟨_, rfl, h⟩
section
variable {prog : Program} {w : World} {A : Around} {E : Value → Shared → Prop} {s : Shared}
theorem call_enumerate_tuple {l : Addr} {items : Array Value} {Q : Value → Shared → Prop} (hL : s.heap.IsTuple l items)
    (h : ∀ h', IsEnum h' (s.heap.objs.size + 1) s.heap.objs.size 0 .none → h'.IsTupleIter s.heap.objs.size l 0 → h'.objs.size = s.heap.objs.size + 2 →
      (∀ b o, s.heap.get? b = some o → h'.get? b = some o) → Q (.ref (s.heap.objs.size + 1)) { s with heap := h' }) :
    wpAny (model prog w) A (call (.type "enumerate") [.ref l]) Q E s := by
  obtain ⟨⟨c, dct, dt, sl⟩, hl, hc, n, hd⟩ := hL
  replace hc : c = .type "tuple" := hc
  replace hd : dt = .seq items n := hd
  subst hc hd
  refine callType_new F.called_enumerate (by decide) (F.typeCall_enumerate_1 _) (F.newCall_enumerate_1 _) (fun obj => F.args_object_init_2 obj _) F.entry_enumerate_new
    (meets_enumerate_newT l items n dct sl) ⟨hl, ?_⟩
  have hz : (s.heap.push { cls := .type "tuple_iterator", data := .fields #[.ref l, .int 0 0] }).objs.size = s.heap.objs.size + 1 := Heap.size_push ..
  show _ ∧ _
  rw [hz]
  have he : IsEnum ((s.heap.push { cls := .type "tuple_iterator", data := .fields #[.ref l, .int 0 0] }).push
      { cls := .type "enumerate", data := .fields #[.none, .bool false, .ref s.heap.objs.size, rawInt 0, .none, .none] }) (s.heap.objs.size + 1) s.heap.objs.size 0 .none := by
    have := Heap.get?_push_size (s.heap.push { cls := .type "tuple_iterator", data := .fields #[.ref l, .int 0 0] })
      (o := { cls := .type "enumerate", data := .fields #[.none, .bool false, .ref s.heap.objs.size, rawInt 0, .none, .none] }) rfl
    rw [hz] at this; exact this
  refine ⟨⟨_, he, rfl⟩, h _ he ⟨_, Heap.get?_push_of_some _ (Heap.get?_push_size _ rfl), rfl, rfl⟩ (by rw [Heap.size_push, hz]) fun b o x => Heap.get?_push_of_some _ (Heap.get?_push_of_some _ x)⟩
end
section
variable {prog : Program} {w : World} {A : Around} {E : Value → Shared → Prop} {s : Shared}
theorem wpAny_pyNext_enum_endT {e it l : Addr} {i : Nat} {items : Array Value} {old : Value} {Q : Option Value → Shared → Prop} (hh : A.handled = none)
    (he : IsEnum s.heap e it i old) (hit : s.heap.IsTupleIter it l i) (hl : s.heap.IsTuple l items) (hx : items[i]? = none)
    (hQ : ∀ h', Heap.ExtBut it s.heap h' → Q none { s with heap := h' }) : wpAny (model prog w) A (pyNext (.ref e)) Q E s := by
  have hT : s.TypeIs (.ref e) "enumerate" := ⟨_, he, rfl⟩
  unfold pyNext
  refine wpAny_bind (wpAny_attempt (wpAny_callSpecial?_slot (name := Str.ofString "__next__") hT F.slot_enumerate_next
    (wpAny_call_entry F.slot_enumerate_next hT F.entry_enumerate_next ?_ (F.args_enumerate_next_1 _))))
  show wpAny _ _ (field (.ref e) 2 >>= _) _ _ _
  refine wpAny_bind (wpAny_field he rfl (x := .ref it) rfl ?_)
  refine wpAny_bind (wpAny_nextOf_tuple_end hh hit hl hx fun h' x he' hx' => ?_)
  obtain ⟨o, ho, hc⟩ := hx'
  refine wpAny_bind (wpAny_isInstance (T := "StopIteration") (b := true) ⟨o, ho, hc⟩ isSubtype_stop ?_)
  exact wpAny_pure (hQ _ he')
end
theorem turn_enumT {P : Program} {w : World} {K : PySem.W.Frag} {elts : List Expr} {kk : Nat} {tpos : Pos} (a e it : Addr) (hai : a ≠ it) :
    Turn P w K (.Tuple elts kk tpos) (IteT K a) [e, it] e (fun i h => (∃ old, IsEnum h e it ((i : Nat) : Int) old) ∧ h.IsTupleIter it a i ∧ e ≠ it) where
  mem := by simp
  obj := fun i h st b hb => by
    obtain ⟨⟨old, he⟩, ⟨o, ho, hc, hd⟩, _⟩ := st
    have e' : b = e ∨ b = it := by simpa using hb
    rcases e' with z | z
    · rw [z]; exact ⟨_, he, fun v q => nomatch q⟩
    · rw [z]; exact ⟨o, ho, fun v q => by rw [hd] at q; cases q⟩
  keep := fun i h h' st k => let ⟨⟨old, he⟩, hi, hne⟩ := st; ⟨⟨old, k e (by simp) _ he⟩, hi.at fun o q => k it (by simp) o q, hne⟩
  item := by
    intro X hP hw hK hc i pins s σ H E I hf st hg
    subst hP hw hK
    obtain ⟨⟨old, he⟩, hit, hne⟩ := st
    obtain ⟨xs, x, hq, hx⟩ := hg
    obtain ⟨its, rv, p, hz⟩ := I.tuple hq
    obtain ⟨u, hu, ru⟩ := rv.get hx
    have hel : e < s.heap.objs.size := Heap.lt_size he
    have hil : it < s.heap.objs.size := by obtain ⟨_, q, _⟩ := hit; exact Heap.lt_size q
    have hlt : i < its.toArray.size := by
      have := (List.getElem?_eq_some_iff.mp hu).1
      simpa using this
    have hae : a ≠ e := by
      intro z
      subst z
      obtain ⟨o, ho, hcl, _⟩ := p
      have ho' : s.heap.get? a = some o := ho
      rw [he] at ho'
      cases ho'
      have hcl' : Value.type "enumerate" = Value.type "tuple" := hcl
      injection hcl' with hcl'
      exact absurd hcl' (by decide)
    refine wpAny_pyNext_enum_itemD (Draws.tuple (A := X.A.in1) (I.ok.hd hc) it a hai its.toArray) he ⟨hit, p⟩ hlt hne (by simp only [List.mem_cons, List.not_mem_nil, or_false, not_or]; exact ⟨hne, fun z => hae z.symm⟩) fun u' h' tk hu' ho hst hT hsz hk => ?_
    have hit' := hst.1
    have eu : u' = u := by
      have h1 : its[i]? = some u' := by simpa using hu'
      rw [hu] at h1
      exact (Option.some.inj h1).symm
    subst eu
    refine ⟨_, rfl, wpAny_letOwnedTupleGo_enum (s := { s with heap := h', toks := tk + 1 }) ho fun h'' he' sb => ?_⟩
    have hT2 : h''.get? s.heap.objs.size = some { cls := .type "tuple", data := .seq #[.int i tk, u'] } := (sb.2 _ (Nat.ne_of_gt hel)).trans hT
    have new : ObjOk X.prog X.w (upd H s.heap.objs.size (.tup [.int (i : Nat), x])) h'' s.heap.objs.size (.tup [.int (i : Nat), x]) :=
      ⟨by show 2 ≤ sizeLine; decide, [.int i tk, u'], .cons ⟨_, rfl⟩ (.cons ru .nil), ⟨_, hT2, rfl, _, rfl⟩⟩
    have I1 : Inv X pins σ (upd H s.heap.objs.size (.tup [.int (i : Nat), x])) { s with heap := h'', toks := tk + 1 } :=
      I.turnedNew (ch := [e, it]) (fun b ob hb q => (sb.2 b (fun z => hb (by simp [z]))).trans (hk b ob (fun z => hb (by simp [z])) (fun z => hb (by simp [z])) q)) hf (Nat.le_refl _) new
    refine ⟨.ref s.heap.objs.size, _, I1, rfl, ⟨_, x, rfl, I.hok.fresh (Nat.le_refl _), rfl, fun ys hy => by rw [I.tuple_inj hy hq]; exact hx⟩, ⟨⟨u', ?_⟩, hit'.at fun o q => (sb.2 it (Ne.symm hne)).trans q, hne⟩, fun b hb => ?_⟩
    · have e1 : ((i + 1 : Nat) : Int) = (i : Int) + 1 := by omega
      rw [e1]; exact he'
    · have hb' : b < s.heap.objs.size := by
        have e' : b = e ∨ b = it := by simpa using hb
        rcases e' with z | z
        · rw [z]; exact hel
        · rw [z]; exact hil
      rw [upd_ne (Nat.ne_of_lt hb')]
      exact (hf b hb).1
  done := by
    intro X hP hw hK hc i pins s σ H E I hf st hg
    subst hP hw hK
    obtain ⟨⟨old, he⟩, hit, hne⟩ := st
    obtain ⟨xs, hq, hx⟩ := hg
    obtain ⟨its, rv, p, hz⟩ := I.tuple hq
    obtain ⟨f0, f1, f2, f3, f4, f5⟩ := hf it (by simp)
    have hl := rv.length
    exact wpAny_pyNext_enum_endT (I.ok.hd hc) he hit (show s.heap.IsTuple a its.toArray from p) (by simp; omega) fun h' eb => ⟨rfl, I.turned (t' := s.toks) (fun b o hb q => eb b o hb q) f0 f1 f3 f4 f5⟩
  self := fun A i s Q E st h => let ⟨⟨_, he⟩, _⟩ := st; wpAny_pyIter_enum he h
/-- enumerate(xs), xs a list or a tuple -/
def iEnumA (K : PySem.W.Frag) (ta : TA) : TI := fun σ H R => ta σ H fun vs H1 => ∃ a, vs = [.ref a] ∧ (((∃ xs, SqL K H1 a xs) ∧ R (Ite K a) H1) ∨ ((∃ xs, SqT K H1 a xs) ∧ R (IteT K a) H1))
theorem pi_enumA {X : Cx} {e : Expr} {ta : TA} {p pos tpos : Pos} {elts : List Expr} {kk : Nat} (hg : Gl X "enumerate") (hm : X.mg "enumerate" = none) (ha : PA X [e] ta) (hs : starEach [e] X.env = [(false, eval e X.env)] := by rfl) :
    PI X (.Tuple elts kk tpos) (.Call (.Name "enumerate" p) [e] [] pos) (iEnumA X.K ta) := by
  refine ⟨fun pins s σ H R I h => ?_⟩
  refine Call_ (ld_blt I hg hm boot_enumerate (PyProof.Rows.callWith_type1 (thn (ha.run pos pins s σ H _ I h) fun us s1 ⟨vs, H1, I1, r1, q1⟩ => ?_) hs rfl))
  obtain ⟨a, ex, q⟩ := q1
  subst ex
  cases r1 with
  | cons r rr =>
    cases rr
    cases r
    have fresh2 : ∀ b ∈ [s1.heap.objs.size + 1, s1.heap.objs.size], FpOk X pins H1 b := fun b hb => by
      have e' : b = s1.heap.objs.size + 1 ∨ b = s1.heap.objs.size := by simpa using hb
      have hle : s1.heap.objs.size ≤ b := by
        rcases e' with z | z
        · rw [z]; exact Nat.le_add_right _ _
        · rw [z]; exact Nat.le_refl _
      exact I1.fpOk hle (I1.hok.fresh hle)
    rcases q with ⟨⟨xs, hq⟩, q⟩ | ⟨⟨xs, hq⟩, q⟩
    · obtain ⟨its, rv, p', hz⟩ := I1.list hq
      refine call_enumerate_list p'.isList fun h' he hit hsz hk => wpAny_pyIter_enum he ?_
      have I2 : Inv X pins σ H1 { s1 with heap := h' } := I1.kept (t' := s1.toks) hk
      exact ⟨s1.heap.objs.size + 1, [s1.heap.objs.size + 1, s1.heap.objs.size], _, _, H1, rfl, I2, turn_enum a (s1.heap.objs.size + 1) s1.heap.objs.size, ⟨⟨.none, he⟩, hit, Nat.succ_ne_self _⟩, fresh2, q⟩
    · obtain ⟨its, rv, p', hz⟩ := I1.tuple hq
      obtain ⟨o1, ho1, _⟩ := id p'
      refine call_enumerate_tuple (show s1.heap.IsTuple a its.toArray from p') fun h' he hit hsz hk => wpAny_pyIter_enum he ?_
      have I2 : Inv X pins σ H1 { s1 with heap := h' } := I1.kept (t' := s1.toks) hk
      exact ⟨s1.heap.objs.size + 1, [s1.heap.objs.size + 1, s1.heap.objs.size], _, _, H1, rfl, I2, turn_enumT a (s1.heap.objs.size + 1) s1.heap.objs.size (Nat.ne_of_lt (Heap.lt_size ho1)), ⟨⟨.none, he⟩, hit, Nat.succ_ne_self _⟩, fresh2, q⟩
def enumFrom (n : Nat) : List D → List D
  | [] => []
  | x :: xs => .tup [.int n, x] :: enumFrom (n + 1) xs
theorem enumFrom_len : ∀ (n : Nat) (xs : List D), (enumFrom n xs).length = xs.length
  | _, [] => rfl
  | n, x :: xs => by simp [enumFrom, enumFrom_len (n + 1) xs]
theorem enumFrom_at : ∀ {n i : Nat} {xs : List D} {d : D}, (enumFrom n xs)[i]? = some d → ∃ x, xs[i]? = some x ∧ d = .tup [.int ((n + i : Nat) : Int), x]
  | _, _, [], _, h => by simp [enumFrom] at h
  | n, 0, x :: xs, d, h => by
    simp [enumFrom] at h
    exact ⟨x, rfl, by simp [← h]⟩
  | n, i + 1, x :: xs, d, h => by
    have h' : (enumFrom (n + 1) xs)[i]? = some d := by simpa [enumFrom] using h
    obtain ⟨y, h1, h2⟩ := enumFrom_at h'
    exact ⟨y, by simpa using h1, by rw [h2]; congr 4; omega⟩
def itEnum (S : Store) (d : D) : Option Itm := match d with
  | .tup xs => some (enumFrom 0 xs, none)
  | .lst xs => some (enumFrom 0 xs, none)
  | _ => none
def cEnum (c : DE) : DI := fun ρ S => match c ρ S with
  | some (d, S') => (itEnum S' d).map fun m => (m, S')
  | none => none
section
variable {P : Program} {w : World} {K : PySem.W.Frag} {B : Wd} {S : Store} {H : Hp}
theorem wlk_enumT {a : Addr} {xs : List D} (ha : ∀ B' S' H', St0 B S H B' S' H' → RS P w K B' S' H' → ∃ us, SqT K H' a us ∧ RVs K B' S' H' us xs) : Wlk P w K B S H (IteT K a) (enumFrom 0 xs, none) := by
  intro B' S' H' st hs lv i
  obtain ⟨us, hu, ru⟩ := ha B' S' H' st hs
  refine ⟨fun d hd => ?_, fun e => ⟨us, hu, by rw [ru.length, e, enumFrom_len]; exact Nat.le_refl _⟩⟩
  obtain ⟨x, hx, rfl⟩ := enumFrom_at hd
  obtain ⟨u, hux, rux⟩ := ru.get hx
  refine ⟨⟨us, u, hu, hux⟩, fun z H'' y' => ?_⟩
  obtain ⟨T, p, rfl, hT, rfl, g1⟩ := y'
  have e1 := g1 us hu
  rw [hux] at e1; cases e1
  refine ⟨Stp.new hs hT, hs.new hT, RV.newTup hs hT (.cons ?_ (.cons rux .nil))⟩
  rw [Nat.zero_add]
  exact .int _
theorem wlk_enumL {a : Addr} {xs : List D} (ha : ∀ B' S' H', St0 B S H B' S' H' → RS P w K B' S' H' → ∃ us, SqL K H' a us ∧ RVs K B' S' H' us xs) : Wlk P w K B S H (Ite K a) (enumFrom 0 xs, none) := by
  intro B' S' H' st hs lv i
  obtain ⟨us, hu, ru⟩ := ha B' S' H' st hs
  refine ⟨fun d hd => ?_, fun e => ⟨us, hu, by rw [ru.length, e, enumFrom_len]; exact Nat.le_refl _⟩⟩
  obtain ⟨x, hx, rfl⟩ := enumFrom_at hd
  obtain ⟨u, hux, rux⟩ := ru.get hx
  refine ⟨⟨us, u, hu, hux⟩, fun z H'' y' => ?_⟩
  obtain ⟨T, p, rfl, hT, rfl, g1⟩ := y'
  have e1 := g1 us hu
  rw [hux] at e1; cases e1
  refine ⟨Stp.new hs hT, hs.new hT, RV.newTup hs hT (.cons ?_ (.cons rux .nil))⟩
  rw [Nat.zero_add]
  exact .int _
end
theorem pdi_enum {X : Cx} {a : Expr} {c : DE} {p pos tpos : Pos} {elts : List Expr} {kk : Nat} (hm : X.mg "enumerate" = none) (h : PD X a c) (hg : Gl X "enumerate" := by rfl) (hs : starEach [a] X.env = (false, eval a X.env) :: starEach [] X.env := by rfl) (hs1 : starEach [a] X.env = [(false, eval a X.env)] := by rfl) :
    PDI X (.Tuple elts kk tpos) (.Call (.Name "enumerate" p) [a] [] pos) (cEnum c) :=
  pi_imp (pi_enumA hg hm (pa_cons h pa_nil hs) hs1) fun σ H R ⟨B, ρ, S, m, S', hs, he, e, k⟩ => by
    unfold cEnum at e
    split at e
    · rename_i d S1 e1
      obtain ⟨m', e2, e3⟩ := Option.map_eq_some_iff.mp e
      cases e3
      refine ⟨B, ρ, S, d, _, hs, he, e1, fun B' v H' st hs' r => ?_⟩
      unfold itEnum at e2
      split at e2
      · cases e2
        obtain ⟨q, us, rfl, hu, ru⟩ := r.tupI
        exact ⟨q, rfl, .inr ⟨⟨us, hu⟩, k B' _ H' st hs' (wlk_enumT (later_tup r))⟩⟩
      · cases e2
        cases id r with
        | lst h1 n1 q1 => exact ⟨_, rfl, .inl ⟨⟨_, SqL.of h1⟩, k B' _ H' st hs' (wlk_enumL (later_l r))⟩⟩
      · cases e2
    · cases e
end DL

/-! Comprehensions. -/
namespace DL
open PySem PySem.Spec PyProof.Rows L2

def wipeD (ρ : Env') : List Nat → Env'
  | [] => ρ
  | v :: vs => (wipeD ρ vs).set v none
theorem wipeD_len (ρ : Env') : ∀ vs : List Nat, (wipeD ρ vs).length = ρ.length
  | [] => rfl
  | v :: vs => by unfold wipeD; rw [List.length_set, wipeD_len ρ vs]
theorem wipe_in {σ : L2.St} {i : Nat} : ∀ {vs : List Nat}, i ∈ vs → i < σ.length → (wipe σ vs)[i]? = some none
  | v :: vs, h, hl => by
    unfold wipe
    by_cases e : v = i
    · subst e
      rw [List.getElem?_set_self (by rw [wipe_length]; exact hl)]
    · rw [List.getElem?_set_ne e]
      rcases List.mem_cons.mp h with z | z
      · exact absurd z.symm e
      · exact wipe_in z hl
theorem wipeD_out {ρ : Env'} {i : Nat} : ∀ {vs : List Nat}, i ∉ vs → (wipeD ρ vs)[i]? = ρ[i]?
  | [], _ => rfl
  | v :: vs, h => by
    simp only [List.mem_cons, not_or] at h
    unfold wipeD
    rw [List.getElem?_set_ne (Ne.symm h.1)]
    exact wipeD_out h.2
theorem wipeD_in {ρ : Env'} {i : Nat} : ∀ {vs : List Nat}, i ∈ vs → i < ρ.length → (wipeD ρ vs)[i]? = some none
  | v :: vs, h, hl => by
    unfold wipeD
    by_cases e : v = i
    · subst e
      rw [List.getElem?_set_self (by rw [wipeD_len]; exact hl)]
    · rw [List.getElem?_set_ne e]
      rcases List.mem_cons.mp h with z | z
      · exact absurd z.symm e
      · exact wipeD_in z hl
theorem RE.wipe {K : PySem.W.Frag} {B : Wd} {S : Store} {H : Hp} {σ : L2.St} {ρ : Env'} (r : RE K B S H σ ρ) (vs : List Nat) : RE K B S H (L2.wipe σ vs) (wipeD ρ vs) := by
  refine ⟨by rw [wipe_length, wipeD_len]; exact r.len, fun i d e => ?_⟩
  by_cases h : i ∈ vs
  · by_cases hl : i < ρ.length
    · rw [wipeD_in h hl] at e; cases e
    · have := (List.getElem?_eq_some_iff.mp e).1
      rw [wipeD_len] at this
      omega
  · rw [wipeD_out h] at e
    rw [wipe_out h]
    exact r.at_ i d e
theorem wipe_same {σ σ' : L2.St} {vs ws : List Nat} (hw : ∀ i ∈ ws, i ∈ vs) (h : ∀ j, j ∉ ws → σ'[j]? = (wipe σ vs)[j]?) (hl : σ'.length = (wipe σ vs).length) : wipe σ' vs = wipe σ vs := by
  refine List.ext_getElem? fun i => ?_
  have hl' : σ'.length = σ.length := by rw [hl, wipe_length]
  by_cases hi : i ∈ vs
  · by_cases hn : i < σ.length
    · rw [wipe_in hi (by rw [hl']; exact hn), wipe_in hi hn]
    · rw [List.getElem?_eq_none (by rw [wipe_length, hl']; omega), List.getElem?_eq_none (by rw [wipe_length]; omega)]
  · rw [wipe_out hi, h i (fun z => hi (hw i z))]

-- the turns of a comprehension: f y acc S is one turn
abbrev LT := D → List D → Store → Option (List D × Store)
open Classical in
noncomputable def lcGo (f : LT) (l : Option Nat) (xs : List D) : List D → List D → Store → Option (List D × Store)
  | [], acc, S => if liveOk l xs S then some (acc, S) else none
  | y :: ys, acc, S => if liveOk l xs S then (match f y acc S with
    | none => none
    | some (acc', S') => lcGo f l xs ys acc' S') else none
def ltUp (f : LT) : Prop := ∀ y acc acc' S S', f y acc S = some (acc', S') → acc.length ≤ acc'.length
theorem lcGo_len {f : LT} {l : Option Nat} {xs : List D} (hf : ltUp f) : ∀ {ys acc : List D} {S : Store} {res : List D} {S' : Store}, lcGo f l xs ys acc S = some (res, S') → acc.length ≤ res.length
  | [], acc, S, res, S', h => by
    unfold lcGo at h
    split at h
    · cases h; exact Nat.le_refl _
    · cases h
  | y :: ys, acc, S, res, S', h => by
    unfold lcGo at h
    split at h
    · split at h
      · cases h
      · rename_i e
        exact Nat.le_trans (hf _ _ _ _ _ e) (lcGo_len hf h)
    · cases h
/-- one clause -/
def lt1 (g : DG) (t : DT) (e : DE) (ρ : Env') : LT := fun y acc S => match g y ρ with
  | none => none
  | some ρ1 => (match t ρ1 S with
    | none => none
    | some (false, S1) => some (acc, S1)
    | some (true, S1) => (match e ρ1 S1 with
      | none => none
      | some (d, S2) => some (acc ++ [d], S2)))
/-- two clauses -/
noncomputable def lt2 (g : DG) (t : DT) (ci1 : DI) (g1 : DG) (t1 : DT) (e : DE) (vs1 : List Nat) (ρ : Env') : LT := fun y acc S => match g y ρ with
  | none => none
  | some ρ1 => (match t ρ1 S with
    | none => none
    | some (false, S1) => some (acc, S1)
    | some (true, S1) => (match ci1 ρ1 S1 with
      | none => none
      | some (m, S2) => lcGo (lt1 g1 t1 e (wipeD ρ1 vs1)) m.2 m.1 m.1 acc S2))
theorem lt1_up {g : DG} {t : DT} {e : DE} {ρ : Env'} : ltUp (lt1 g t e ρ) := fun y acc acc' S S' h => by
  unfold lt1 at h
  split at h
  · cases h
  · split at h
    · cases h
    · cases h; exact Nat.le_refl _
    · split at h
      · cases h
      · cases h; simp
theorem lt2_up {g g1 : DG} {t t1 : DT} {ci1 : DI} {e : DE} {vs1 : List Nat} {ρ : Env'} : ltUp (lt2 g t ci1 g1 t1 e vs1 ρ) := fun y acc acc' S S' h => by
  unfold lt2 at h
  split at h
  · cases h
  · split at h
    · cases h
    · cases h; exact Nat.le_refl _
    · split at h
      · cases h
      · exact lcGo_len lt1_up h
def mkL (bx : Bool) (ds : List D) (S : Store) : Option (D × Store) := if ds.length ≤ sizeLine then (if bx = true then some (.ref S.length, S ++ [.lst ds]) else some (.lst ds, S)) else none
noncomputable def cLC (vs : List Nat) (bx : Bool) (ci : DI) (f : Env' → LT) : DE := fun ρ S => match ci ρ S with
  | none => none
  | some (m, S1) => (match lcGo (f (wipeD ρ vs)) m.2 m.1 m.1 [] S1 with
    | some (ds, S2) => mkL bx ds S2
    | none => none)

section
variable {P : Program} {w : World} {K : PySem.W.Frag} {B B' : Wd} {S S' : Store} {H H' : Hp}
/-- what is hidden comes to light -/
abbrev showB (B : Wd) (h : List Addr) : Wd := ⟨B.at_, h⟩
theorem owned_show {D : Addr} {h : List Addr} (e : B.hid = D :: h) {a : Addr} (o : Owned (showB B h) S a) : Owned B S a := by
  rcases o with o | o
  · exact .inl (by rw [e]; exact List.mem_cons_of_mem _ o)
  · exact .inr o
theorem RS.shown {D : Addr} {h : List Addr} (r : RS P w K B S H) (e : B.hid = D :: h) : RS P w K (showB B h) S H := by
  refine ⟨r.inj, fun k c q => ?_, fun a ha => r.hdt a (by rw [e]; exact List.mem_cons_of_mem _ ha), fun a k c ha q n => r.hdn a k c (by rw [e]; exact List.mem_cons_of_mem _ ha) q n⟩
  exact CRl.cut (B := B) (S := S) (B' := showB B h) (S' := S) (n := S.length) (fun _ _ => rfl) (Nat.le_refl _) (fun a (o : Owned (showB B h) S a) => owned_show e o) (r.cel k c q) (r.cel k c q).below
/-- a comprehension's result, in the open -/
theorem shown {D : Addr} {vs : List V} {ds : List DL.D} {d : DL.D} {bx : Bool} {S2 : Store} (hs1 : RS P w K B S H) (n : H D = none) (st : St0 B S H B' S' H') (hk : ∀ a, a ∈ B.hid → H' a = H a) (hs : RS P w K B' S' H') (e : B'.hid = D :: B.hid) (hD : H' D = some (.lst vs)) (rv : RVs K B' S' H' vs ds) (em : mkL bx ds S' = some (d, S2)) :
    ∃ B2, Stp B S H B2 S2 H' ∧ RS P w K B2 S2 H' ∧ RV K B2 S2 H' (.ref D) d := by
  have rs := hs.shown e
  have nD : ¬ Owned (showB B' B.hid) S' D := fun o => by
    rcases o with o | ⟨k, c, ek, nc, hb⟩
    · obtain ⟨u, hu⟩ := hs1.hdt D o
      rw [n] at hu; cases hu
    · exact hs.hdn D k c (by rw [e]; exact List.mem_cons_self) ek nc hb
  have rv' : RVs K (showB B' B.hid) S' H' vs ds := RVs.cut (n := S'.length) (B := B') (S := S') (B' := showB B' B.hid) (S' := S') (fun _ _ => rfl) (Nat.le_refl _) (fun a (o : Owned (showB B' B.hid) S' a) => owned_show e o) _ _ rv (RVs.areBelow _ _ rv)
  have stp : Stp B S H (showB B' B.hid) S' H' := ⟨⟨st.len, st.agr, st.oth, fun a o h w => st.own a o h (owned_show e w), st.lks⟩, rfl, hk⟩
  unfold mkL at em
  split at em
  · split at em
    · cases em
      -- a cell more, at D
      have ho : ∀ a, Owned (addB (showB B' B.hid) S'.length D) (S' ++ [.lst ds]) a → a = D ∨ Owned (showB B' B.hid) S' a := fun a o => owned_add o
      -- the contents never mention D: the hidden world says so
      have cutH : ∀ (x : List DL.D) (us : List V), RVs K B' S' H' us x → RVs K (addB (showB B' B.hid) S'.length D) (S' ++ [.lst ds]) H' us x := fun x us q =>
        RVs.cut (n := S'.length) (B := B') (S := S') (B' := addB (showB B' B.hid) S'.length D) (S' := S' ++ [.lst ds]) (fun k hk => addB_lt hk) (by simp) (fun a o => show Owned B' S' a from by
          rcases ho a o with z | z
          · rw [z]; exact .inl (by rw [e]; exact List.mem_cons_self)
          · exact owned_show e z) _ _ q (RVs.areBelow _ _ q)
      refine ⟨addB (showB B' B.hid) S'.length D, ⟨⟨Nat.le_trans st.len (by simp), fun k hk => (addB_lt (Nat.lt_of_lt_of_le hk st.len)).trans (st.agr k hk), st.oth, fun a o h w => ?_, fun k kvs h => let ⟨h1, h2⟩ := st.lks k kvs h; ⟨by rw [List.getElem?_append_left (List.getElem?_eq_some_iff.mp h1).1]; exact h1, h2⟩⟩, rfl, hk⟩, ⟨fun i j ci cj ei ej ni nj eq => ?_, fun k c ek => ?_, rs.hdt, fun a k c ha ek nc => ?_⟩, ?_⟩
      · rcases ho a w with z | z
        · subst z; rw [n] at h; cases h
        · exact stp.own a o h z
      · rcases at_add ei with ⟨li, hi⟩ | ⟨li, hi⟩ <;> rcases at_add ej with ⟨lj, hj⟩ | ⟨lj, hj⟩
        · rw [addB_lt li, addB_lt lj] at eq
          exact hs.inj i j ci cj hi hj ni nj eq
        · subst lj
          rw [addB_lt li, addB_self] at eq
          exact absurd eq (hs.hdn D i ci (by rw [e]; exact List.mem_cons_self) hi ni)
        · subst li
          rw [addB_lt lj, addB_self] at eq
          exact absurd eq.symm (hs.hdn D j cj (by rw [e]; exact List.mem_cons_self) hj nj)
        · rw [li, lj]
      · rcases at_add ek with ⟨li, hi⟩ | ⟨li, hi⟩
        · rw [addB_lt li]
          exact CRl.cut (n := S'.length) (B := B') (S := S') (B' := addB (showB B' B.hid) S'.length D) (S' := S' ++ [.lst ds]) (fun k hk => addB_lt hk) (by simp) (fun a o => show Owned B' S' a from by
            rcases ho a o with z | z
            · rw [z]; exact .inl (by rw [e]; exact List.mem_cons_self)
            · exact owned_show e z) (hs.cel k c hi) (hs.cel k c hi).below
        · subst li; subst hi
          rw [addB_self]
          exact ⟨vs, hD, cutH _ _ rv⟩
      · rcases at_add ek with ⟨li, hi⟩ | ⟨li, hi⟩
        · rw [addB_lt li]
          exact rs.hdn a k c ha hi nc
        · subst li
          rw [addB_self]
          rintro rfl
          exact nD (.inl ha)
      · have e2 : V.ref D = V.ref (addB (showB B' B.hid) S'.length D S'.length) := by rw [addB_self]
        rw [e2]
        exact .ref (by simp)
    · cases em
      exact ⟨_, stp, rs, .lst hD nD rv'⟩
  · cases em
end

/-- the state within a comprehension -/
structure CI (P : Program) (w : World) (K : PySem.W.Frag) (B1 : Wd) (S1 : Store) (H1 : Hp) (D : Addr) (B : Wd) (S : Store) (H : Hp) (acc : List DL.D) : Prop where
  st : St0 B1 S1 H1 B S H
  hde : B.hid = D :: B1.hid
  hdk : ∀ a, a ∈ B1.hid → H a = H1 a
  rs : RS P w K B S H
  acc : ∃ vs, H D = some (.lst vs) ∧ RVs K B S H vs acc
section
variable {P : Program} {w : World} {K : PySem.W.Frag} {B1 B B2 : Wd} {S1 S S2 : Store} {H1 H H2 : Hp} {D : Addr} {acc : List DL.D}
theorem CI.step (c : CI P w K B1 S1 H1 D B S H acc) (st : Stp B S H B2 S2 H2) (hs : RS P w K B2 S2 H2) : CI P w K B1 S1 H1 D B2 S2 H2 acc := by
  obtain ⟨vs, h, r⟩ := c.acc
  refine ⟨c.st.trans st.toSt0, st.hde.trans c.hde, fun a ha => ?_, hs, vs, ?_, RVs.mono st _ _ r⟩
  · rw [st.hdk a (by rw [c.hde]; exact List.mem_cons_of_mem _ ha)]
    exact c.hdk a ha
  · rw [st.hdk D (by rw [c.hde]; exact List.mem_cons_self)]
    exact h
theorem CI.push (c : CI P w K B1 S1 H1 D B S H acc) {v : V} {d : DL.D} (r : RV K B S H v d) (n : H1 D = none) (ht : ∀ a, a ∈ B1.hid → ∃ u, H1 a = some u) :
    ∃ vs, H D = some (.lst vs) ∧ vs.length = acc.length ∧ CI P w K B1 S1 H1 D B S (upd H D (.lst (vs ++ [v]))) (acc ++ [d]) ∧ St0 B S H B S (upd H D (.lst (vs ++ [v]))) := by
  obtain ⟨vs, h, q⟩ := c.acc
  have hD : D ∈ B.hid := by rw [c.hde]; exact List.mem_cons_self
  have s0 : St0 B S H B S (upd H D (.lst (vs ++ [v]))) := St0.hid c.rs hD
  refine ⟨vs, h, q.length, ⟨c.st.trans s0, c.hde, fun a ha => ?_, c.rs.hid hD, _, upd_same, (RVs.mono0 s0 _ _ q).append (.cons (RV.mono0 s0 _ _ r) .nil)⟩, s0⟩
  obtain ⟨u, hu⟩ := ht a ha
  rw [upd_ne (ne_of_none hu n)]
  exact c.hdk a ha
/-- the loop of a clause -/
theorem lc_loop {B0 Bs : Wd} {S0 Ss : Store} {H0 Hs : Hp} {J : It} {m : Itm} {f : LT} {ds acc0 : List DL.D} {Se : Store} {T : V → Hp → (Hp → Prop) → Prop} {Fin : Hp → Prop} (W : Wlk P w K B0 S0 H0 J m)
    (st : St0 B0 S0 H0 Bs Ss Hs) (ci : CI P w K B1 S1 H1 D Bs Ss Hs acc0) (e : lcGo f m.2 m.1 m.1 acc0 Ss = some (ds, Se)) (hf : ltUp f)
    (hT : ∀ y acc acc' S S' B H x (Nx : Hp → Prop), St0 Bs Ss Hs B S H → CI P w K B1 S1 H1 D B S H acc → RV K B S H x y → f y acc S = some (acc', S') → acc'.length ≤ ds.length → (∀ B' H', CI P w K B1 S1 H1 D B' S' H' acc' → St0 B S H B' S' H' → Nx H') → T x H Nx)
    (hF : ∀ B' H', CI P w K B1 S1 H1 D B' Se H' ds → St0 Bs Ss Hs B' Se H' → Fin H') :
    ∃ W : Nat → Nat → Hp → Prop, (∃ m, W 0 m Hs) ∧ ∀ i m H, W i m H → (J.stop i H ∧ Fin H) ∨ (J.go i H ∧ ∃ Nx : Hp → Prop, (∀ H', Nx H' → ∃ m', m' < m ∧ W (i + 1) m' H') ∧ ∀ x H', J.yld i H x H' → T x H' Nx) := by
  refine ⟨fun i n H => n = m.1.length - i ∧ i ≤ m.1.length ∧ ∃ B S acc, St0 Bs Ss Hs B S H ∧ CI P w K B1 S1 H1 D B S H acc ∧ lcGo f m.2 m.1 (m.1.drop i) acc S = some (ds, Se),
    ⟨m.1.length, by simp, Nat.zero_le _, Bs, Ss, acc0, St0.refl .., ci, by simpa using e⟩, ?_⟩
  rintro i n H ⟨rfl, hl, B, S, acc, s1, c, eg⟩
  by_cases hlt : i < m.1.length
  · have hd : m.1.drop i = m.1[i] :: m.1.drop (i + 1) := (List.drop_eq_getElem_cons hlt)
    have hx : m.1[i]? = some m.1[i] := by simp [hlt]
    rw [hd] at eg
    unfold lcGo at eg
    split at eg
    · rename_i lv
      obtain ⟨w1, _⟩ := W B S H (st.trans s1) c.rs lv i
      obtain ⟨w2, w3⟩ := w1 _ hx
      split at eg
      · cases eg
      · rename_i acc' S' ef
        refine .inr ⟨w2, fun H' => i + 1 ≤ m.1.length ∧ ∃ B S acc, St0 Bs Ss Hs B S H' ∧ CI P w K B1 S1 H1 D B S H' acc ∧ lcGo f m.2 m.1 (m.1.drop (i + 1)) acc S = some (ds, Se), fun H' q => ⟨m.1.length - (i + 1), by omega, rfl, q⟩, fun x H3 y => ?_⟩
        obtain ⟨st3, hs3, r3⟩ := w3 x H3 y
        exact hT _ acc acc' S S' B H3 x _ (s1.trans st3.toSt0) (c.step st3 hs3) r3 ef (lcGo_len hf eg) fun B' H' c' s' => ⟨hlt, B', S', acc', (s1.trans st3.toSt0).trans s', c', eg⟩
    · cases eg
  · have hi : i = m.1.length := by omega
    subst hi
    rw [List.drop_length] at eg
    unfold lcGo at eg
    split at eg
    · rename_i lv
      cases eg
      exact .inl ⟨(W B _ H (st.trans s1) c.rs lv _).2 rfl, hF B H c s1⟩
    · cases eg
/-- a turn of the innermost clause -/
theorem lt1_turn {Bs B : Wd} {Ss S S' : Store} {Hs H : Hp} {g : DG} {t : DT} {e : DE} {ρ : Env'} {σ : L2.St} {vs ws : List Nat} {y : DL.D} {x : V} {acc acc' : List DL.D} {Nx : Hp → Prop} (hr : RE K Bs Ss Hs (wipe σ vs) ρ) (hw : ∀ i ∈ ws, i ∈ vs) (n : H1 D = none) (ht : ∀ a, a ∈ B1.hid → ∃ u, H1 a = some u)
    (s : St0 Bs Ss Hs B S H) (c : CI P w K B1 S1 H1 D B S H acc) (r : RV K B S H x y) (ef : lt1 g t e ρ y acc S = some (acc', S')) (hz : acc'.length ≤ sizeLine) (hN : ∀ B' H', CI P w K B1 S1 H1 D B' S' H' acc' → St0 B S H B' S' H' → Nx H') :
    tG P w K ws g x (wipe σ vs) H fun σ2 H2 => wipe σ2 vs = wipe σ vs ∧ tT P w K t σ2 H2 fun b H3 => if b = true then tD P w K e σ2 H3 fun y H4 => ∃ acc, H4 D = some (.lst acc) ∧ acc.length < sizeLine ∧ Nx (upd H4 D (.lst (acc ++ [y]))) else Nx H3 := by
  unfold lt1 at ef
  split at ef
  · cases ef
  · rename_i ρ1 eg
    refine ⟨B, ρ, S, y, ρ1, c.rs, hr.mono0 s, r, eg, fun σ' he' ho hl => ⟨wipe_same hw ho hl, ?_⟩⟩
    split at ef
    · cases ef
    · rename_i S3 et
      cases ef
      exact ⟨B, ρ1, _, _, _, c.rs, he', et, fun B' H' st hs' => iteF (hN B' H' (c.step st hs') st.toSt0)⟩
    · rename_i S3 et
      refine ⟨B, ρ1, _, _, _, c.rs, he', et, fun B3 H3 st hs3 => iteT ?_⟩
      split at ef
      · cases ef
      · rename_i d S4 ee
        cases ef
        refine ⟨B3, ρ1, S3, d, _, hs3, he'.mono st, ee, fun B4 v4 H4 st4 hs4 r4 => ?_⟩
        obtain ⟨us, h1, h2, h3, h4⟩ := ((c.step st hs3).step st4 hs4).push r4 n ht
        refine ⟨us, h1, ?_, hN B4 _ h3 ((st.trans st4).toSt0.trans h4)⟩
        rw [h2]
        simp at hz
        omega
/-- the reading of a comprehension of one clause -/
theorem lc_read {ci : DI} {g : DG} {t : DT} {e : DE} {vs ws : List Nat} {bx : Bool} {σ : L2.St} {Q : VK} (hw : ∀ i ∈ ws, i ∈ vs) (h : tD P w K (cLC vs bx ci (lt1 g t e)) σ H Q) : tLc (tI P w K ci) (tG P w K ws g) (tT P w K t) (tD P w K e) vs σ H Q := by
  obtain ⟨B, ρ, S, d, S', hs, he, ec, k⟩ := h
  unfold cLC at ec
  split at ec
  · cases ec
  · rename_i m S1 e1
    split at ec
    · rename_i ds S2 e2
      refine ⟨B, ρ, S, m, S1, hs, he, e1, fun B1 J H1 st1 hs1 W D n => ?_⟩
      have hz : ds.length ≤ sizeLine := by
        unfold mkL at ec
        split at ec
        · assumption
        · cases ec
      refine lc_loop (D := D) (B1 := B1) (S1 := S1) (H1 := H1) W (St0.hide hs1 n) ⟨St0.hide hs1 n, rfl, fun a ha => upd_ne (let ⟨_, hh⟩ := hs1.hdt a ha; ne_of_none hh n), hs1.hide n, [], upd_same, .nil⟩ e2 lt1_up (fun y acc acc' S S' B H x Nx s0 c r ef hl hN => ?_) fun B' H' c s0 => ?_
      · exact lt1_turn (((he.mono st1).wipe vs).mono0 (St0.hide hs1 n)) hw n hs1.hdt s0 c r ef (Nat.le_trans hl hz) hN
      · obtain ⟨us, hu, ru⟩ := c.acc
        obtain ⟨B2, h1, h2, h3⟩ := shown hs1 n c.st c.hdk c.rs c.hde hu ru ec
        exact k B2 _ H' (st1.trans h1) h2 h3
    · cases ec
/-- of two clauses -/
theorem lc2_read {ci ci1 : DI} {g g1 : DG} {t t1 : DT} {e : DE} {vs ws vs1 ws1 : List Nat} {bx : Bool} {σ : L2.St} {Q : VK} (hw : ∀ i ∈ ws, i ∈ vs) (hw1 : ∀ i ∈ ws1, i ∈ vs1) (h : tD P w K (cLC vs bx ci (lt2 g t ci1 g1 t1 e vs1)) σ H Q) :
    tLc2 (tI P w K ci) (tG P w K ws g) (tT P w K t) (tI P w K ci1) (tG P w K ws1 g1) (tT P w K t1) (tD P w K e) vs vs1 σ H Q := by
  obtain ⟨B, ρ, S, d, S', hs, he, ec, k⟩ := h
  unfold cLC at ec
  split at ec
  · cases ec
  · rename_i m S1 e1
    split at ec
    · rename_i ds S2 e2
      refine ⟨B, ρ, S, m, S1, hs, he, e1, fun B1 J H1 st1 hs1 W D n => ?_⟩
      have hz : ds.length ≤ sizeLine := by
        unfold mkL at ec
        split at ec
        · assumption
        · cases ec
      refine lc_loop (D := D) (B1 := B1) (S1 := S1) (H1 := H1) W (St0.hide hs1 n) ⟨St0.hide hs1 n, rfl, fun a ha => upd_ne (let ⟨_, hh⟩ := hs1.hdt a ha; ne_of_none hh n), hs1.hide n, [], upd_same, .nil⟩ e2 lt2_up (fun y acc acc' S S' B H x Nx s0 c r ef hl hN => ?_) fun B' H' c s0 => ?_
      · have hr := ((he.mono st1).wipe vs).mono0 (St0.hide (o := HO.lst []) hs1 n)
        unfold lt2 at ef
        split at ef
        · cases ef
        · rename_i ρ1 eg
          refine ⟨B, _, S, y, ρ1, c.rs, hr.mono0 s0, r, eg, fun σ' he' ho hl' => ⟨wipe_same hw ho hl', ?_⟩⟩
          split at ef
          · cases ef
          · rename_i S3 et
            cases ef
            exact ⟨B, ρ1, S, _, _, c.rs, he', et, fun B' H' st hs' => iteF (hN B' H' (c.step st hs') st.toSt0)⟩
          · rename_i S3 et
            refine ⟨B, ρ1, S, _, _, c.rs, he', et, fun B3 H3 st hs3 => iteT ?_⟩
            split at ef
            · cases ef
            · rename_i m1 S4 ei
              refine ⟨B3, ρ1, S3, m1, S4, hs3, he'.mono st, ei, fun B4 J1 H4 st4 hs4 W1 => ?_⟩
              refine lc_loop (D := D) (B1 := B1) (S1 := S1) (H1 := H1) W1 (St0.refl ..) ((c.step st hs3).step st4 hs4) ef lt1_up (fun y acc acc' S S' B H x Nx s0 c r ef hl2 hN => ?_) fun B' H' c s2 => hN B' H' c ((st.trans st4).toSt0.trans s2)
              exact lt1_turn (((he'.mono st).mono st4).wipe vs1) hw1 n hs1.hdt s0 c r ef (Nat.le_trans hl2 (Nat.le_trans hl hz)) hN
      · obtain ⟨us, hu, ru⟩ := c.acc
        obtain ⟨B2, h1, h2, h3⟩ := shown hs1 n c.st c.hdk c.rs c.hde hu ru ec
        exact k B2 _ H' (st1.trans h1) h2 h3
    · cases ec
end
end DL

/-! Comprehensions as expressions; lists that change; (0,) * n. -/
namespace DL
open PySem PySem.Spec PyProof.Rows L2

abbrev tYesD : DT := fun _ S => some (true, S)
section
variable {X : Cx} {elt tg iter tg1 iter1 : Expr} {ifs ifs1 : List Expr} {scope : Scope} {own : List (Str × Nat)} {pos spos py : Pos} {ci ci1 : DI} {g g1 : DG} {t t1 : DT} {e : DE} {ws ws1 vs1 : List Nat} {bx : Bool} {y : Str} {i : Nat}
theorem pts_imp {ifs : List Expr} {t t' : TT} (h : PTs X ifs t) (i : ∀ σ H Q, t' σ H Q → t σ H Q) : PTs X ifs t' := ⟨fun pins s σ H Q I hw => h.run pins s σ H Q I (i σ H Q hw)⟩
theorem pdts_nil : PTs X [] (tT X.prog X.w X.K tYesD) := pts_imp pts_nil fun σ H Q ⟨B, ρ, S, d, S', hs, he, e, k⟩ => by
  cases e
  exact k B H (Stp.refl ..) hs
theorem pdts_one {c : Expr} {t : DT} (h : PDT X c t) : PTs X [c] (tT X.prog X.w X.K t) := pts_one h
theorem pd_lc (bx : Bool) (hc : X.calm = true) (hN : X.N.Nodup) (hi : PDI X tg iter ci) (ok : BlkOk X.N X.env.scope scope own) (hw : ∀ i ∈ ws, i ∈ own.map (·.2))
    (hg : ∀ (s : Shared) (H : Hp) (C : Addr) (cl : List (Str × Addr)) (fp : List Addr), PDG (X.blk s H scope (compEnvC scope cl C X.env) fp) tg ws g) (ht : ∀ (s : Shared) (H : Hp) (C : Addr) (cl : List (Str × Addr)) (fp : List Addr), PTs (X.blk s H scope (compEnvC scope cl C X.env) fp) ifs (tT X.prog X.w X.K t))
    (he : ∀ (s : Shared) (H : Hp) (C : Addr) (cl : List (Str × Addr)) (fp : List Addr), PD (X.blk s H scope (compEnvC scope cl C X.env) fp) elt e) (hs : ∀ x, foldedSetIterable iter X.env x = pure x := by intro _; rfl) :
    PD X (.ListComp elt [⟨tg, iter, ifs, 0⟩] scope pos) (cLC (own.map (·.2)) bx ci (lt1 g t e)) :=
  pe_imp (pe_lc hc hN hi ok hg ht he hs) fun σ H Q h => lc_read hw h
theorem pds_setLc (bx : Bool) (hc : X.calm = true) (hN : X.N.Nodup) (hy : X.N[i]? = some y) (hyl : X.env.scope.names.lookup y = some .local)
    (hsw : swapsWith (.ListComp elt [⟨tg, iter, ifs, 0⟩] scope pos) (some (.Name y py)) spos.line X.env = pure true) (hi : PDI X tg iter ci) (ok : BlkOk X.N X.env.scope scope own) (hw : ∀ i ∈ ws, i ∈ own.map (·.2))
    (hg : ∀ (s : Shared) (H : Hp) (C : Addr) (cl : List (Str × Addr)) (fp : List Addr), PDG (X.blk s H scope (compEnvC scope cl C X.env) fp) tg ws g) (ht : ∀ (s : Shared) (H : Hp) (C : Addr) (cl : List (Str × Addr)) (fp : List Addr), PTs (X.blk s H scope (compEnvC scope cl C X.env) fp) ifs (tT X.prog X.w X.K t))
    (he : ∀ (s : Shared) (H : Hp) (C : Addr) (cl : List (Str × Addr)) (fp : List Addr), PD (X.blk s H scope (compEnvC scope cl C X.env) fp) elt e) (hs : ∀ x, foldedSetIterable iter X.env x = pure x := by intro _; rfl) :
    PDS X (.Assign [.Name y py] (.ListComp elt [⟨tg, iter, ifs, 0⟩] scope pos) spos) (sSet (gN i) (cLC (own.map (·.2)) bx ci (lt1 g t e))) := by
  refine ps_imp (ps_setLc (g := tG X.prog X.w X.K ws g) (te := tD X.prog X.w X.K e) hc hN hy hyl hsw hi ok hg ht he hs) fun E σ H ⟨B, ρ, S, f, hs, he, ef, k⟩ => ?_
  unfold sSet at ef
  split at ef
  · rename_i d S1 e1
    cases ef
    exact lc_read hw ⟨B, ρ, S, d, S1, hs, he, e1, fun B' v H' st hs' r => k B' _ H' st hs' ((he.mono st).set r i)⟩
  · cases ef
theorem pd_lc2 (bx : Bool) (hc : X.calm = true) (hN : X.N.Nodup) (hi : PDI X tg iter ci) (ok : BlkOk X.N X.env.scope scope own) (hv : ∀ i ∈ vs1, i ∈ own.map (·.2)) (hw : ∀ i ∈ ws, i ∈ own.map (·.2)) (hw1 : ∀ i ∈ ws1, i ∈ vs1)
    (hg : ∀ (s : Shared) (H : Hp) (C : Addr) (cl : List (Str × Addr)) (fp : List Addr), PDG (X.blk s H scope (compEnvC scope cl C X.env) fp) tg ws g) (ht : ∀ (s : Shared) (H : Hp) (C : Addr) (cl : List (Str × Addr)) (fp : List Addr), PTs (X.blk s H scope (compEnvC scope cl C X.env) fp) ifs (tT X.prog X.w X.K t))
    (hi1 : ∀ (s : Shared) (H : Hp) (C : Addr) (cl : List (Str × Addr)) (fp : List Addr), PDI (X.blk s H scope (compEnvC scope cl C X.env) fp) tg1 iter1 ci1)
    (hg1 : ∀ (s : Shared) (H : Hp) (C : Addr) (cl : List (Str × Addr)) (fp : List Addr), PDG (X.blk s H scope (compEnvC scope cl C X.env) fp) tg1 ws1 g1) (ht1 : ∀ (s : Shared) (H : Hp) (C : Addr) (cl : List (Str × Addr)) (fp : List Addr), PTs (X.blk s H scope (compEnvC scope cl C X.env) fp) ifs1 (tT X.prog X.w X.K t1))
    (he : ∀ (s : Shared) (H : Hp) (C : Addr) (cl : List (Str × Addr)) (fp : List Addr), PD (X.blk s H scope (compEnvC scope cl C X.env) fp) elt e) (hs : ∀ x, foldedSetIterable iter X.env x = pure x := by intro _; rfl) (hs1 : ∀ env x, foldedSetIterable iter1 env x = pure x := by intro _ _; rfl) :
    PD X (.ListComp elt [⟨tg, iter, ifs, 0⟩, ⟨tg1, iter1, ifs1, 0⟩] scope pos) (cLC (own.map (·.2)) bx ci (lt2 g t ci1 g1 t1 e vs1)) :=
  pe_imp (pe_lc2 hc hN hi ok hv hg ht hi1 hg1 ht1 he hs hs1) fun σ H Q h => lc2_read hw hw1 h
theorem pds_setLc2 (bx : Bool) (hc : X.calm = true) (hN : X.N.Nodup) (hy : X.N[i]? = some y) (hyl : X.env.scope.names.lookup y = some .local)
    (hsw : swapsWith (.ListComp elt [⟨tg, iter, ifs, 0⟩, ⟨tg1, iter1, ifs1, 0⟩] scope pos) (some (.Name y py)) spos.line X.env = pure true) (hi : PDI X tg iter ci) (ok : BlkOk X.N X.env.scope scope own) (hv : ∀ i ∈ vs1, i ∈ own.map (·.2)) (hw : ∀ i ∈ ws, i ∈ own.map (·.2)) (hw1 : ∀ i ∈ ws1, i ∈ vs1)
    (hg : ∀ (s : Shared) (H : Hp) (C : Addr) (cl : List (Str × Addr)) (fp : List Addr), PDG (X.blk s H scope (compEnvC scope cl C X.env) fp) tg ws g) (ht : ∀ (s : Shared) (H : Hp) (C : Addr) (cl : List (Str × Addr)) (fp : List Addr), PTs (X.blk s H scope (compEnvC scope cl C X.env) fp) ifs (tT X.prog X.w X.K t))
    (hi1 : ∀ (s : Shared) (H : Hp) (C : Addr) (cl : List (Str × Addr)) (fp : List Addr), PDI (X.blk s H scope (compEnvC scope cl C X.env) fp) tg1 iter1 ci1)
    (hg1 : ∀ (s : Shared) (H : Hp) (C : Addr) (cl : List (Str × Addr)) (fp : List Addr), PDG (X.blk s H scope (compEnvC scope cl C X.env) fp) tg1 ws1 g1) (ht1 : ∀ (s : Shared) (H : Hp) (C : Addr) (cl : List (Str × Addr)) (fp : List Addr), PTs (X.blk s H scope (compEnvC scope cl C X.env) fp) ifs1 (tT X.prog X.w X.K t1))
    (he : ∀ (s : Shared) (H : Hp) (C : Addr) (cl : List (Str × Addr)) (fp : List Addr), PD (X.blk s H scope (compEnvC scope cl C X.env) fp) elt e) (hs : ∀ x, foldedSetIterable iter X.env x = pure x := by intro _; rfl) (hs1 : ∀ env x, foldedSetIterable iter1 env x = pure x := by intro _ _; rfl) :
    PDS X (.Assign [.Name y py] (.ListComp elt [⟨tg, iter, ifs, 0⟩, ⟨tg1, iter1, ifs1, 0⟩] scope pos) spos) (sSet (gN i) (cLC (own.map (·.2)) bx ci (lt2 g t ci1 g1 t1 e vs1))) := by
  refine ps_imp (ps_setLc2 (wi1 := tI X.prog X.w X.K ci1) (g := tG X.prog X.w X.K ws g) (g1 := tG X.prog X.w X.K ws1 g1) (te := tD X.prog X.w X.K e) hc hN hy hyl hsw hi ok hv hg ht hi1 hg1 ht1 he hs hs1) fun E σ H ⟨B, ρ, S, f, hs, he, ef, k⟩ => ?_
  unfold sSet at ef
  split at ef
  · rename_i d S1 e1
    cases ef
    exact lc2_read hw hw1 ⟨B, ρ, S, d, S1, hs, he, e1, fun B' v H' st hs' r => k B' _ H' st hs' ((he.mono st).set r i)⟩
  · cases ef
end

/-! ### three at once -/
def sPar3 (i j l : Nat) (a : DA) : DS := fun ρ S => match a ρ S with
  | some ([x, y, z], S') => some (.nx (((ρ.set i (some x)).set j (some y)).set l (some z)) S')
  | _ => none
theorem pds_par3 {X : Cx} {i j l : Nat} {ta : DA} {s : Stmt} (h : PS X s (tPar3 i j l (tAs X.prog X.w X.K ta))) : PDS X s (sPar3 i j l ta) := ps_imp h fun E σ H ⟨B, ρ, S, f, hs, he, ef, k⟩ => by
  unfold sPar3 at ef
  split at ef
  · rename_i x y z S1 e1
    cases ef
    refine ⟨B, ρ, S, _, S1, hs, he, e1, fun B' vs H' st hs' r => ?_⟩
    cases r with
    | cons r1 r2 =>
      cases r2 with
      | cons r2 r3 =>
        cases r3 with
        | cons r3 r4 =>
          cases r4
          exact ⟨_, _, _, rfl, k B' _ H' st hs' ((((he.mono st).set r1 i).set r2 j).set r3 l)⟩
  · cases ef

/-! ### a cell's list changes -/
section
variable {P : Program} {w : World} {K : PySem.W.Frag} {B : Wd} {S : Store} {H : Hp} {k : Nat} {ds es : List D} {ys : List V}
theorem cell_put (hs : RS P w K B S H) (e : S[k]? = some (.lst ds)) (r : RVs K B S H ys es) :
    Stp B S H B (S.set k (.lst es)) (upd H (B k) (.lst ys)) ∧ RS P w K B (S.set k (.lst es)) (upd H (B k) (.lst ys)) := by
  have st : Stp B S H B (S.set k (.lst es)) (upd H (B k) (.lst ys)) := Stp.set hs e (by simp)
  exact ⟨st, hs.set e (by simp) ⟨ys, upd_same, RVs.mono st _ _ r⟩⟩
theorem cell_at (hs : RS P w K B S H) (e : S[k]? = some (.lst ds)) : ∃ xs, H (B k) = some (.lst xs) ∧ RVs K B S H xs ds := hs.cel k _ e
end
/-- a method of a cell's list: f by the cell, its list, the arguments -/
abbrev DM := Nat → List D → List D → Store → Option (D × Store)
def cM (f : DM) (o : DE) (a : DA) : DE := fun ρ S => match o ρ S with
  | some (.ref k, S1) => (match S1[k]? with
    | some (.lst _) => (match a ρ S1 with
      | some (xs, S2) => (match S2[k]? with
        | some (.lst ds) => f k ds xs S2
        | _ => none)
      | none => none)
    | _ => none)
  | _ => none
def OkM (P : Program) (w : World) (K : PySem.W.Frag) (r : V → List V → Hp → VK → Prop) (f : DM) : Prop :=
  ∀ B S H k ds xs dxs us d S' (Q : VK), RS P w K B S H → S[k]? = some (.lst ds) → H (B k) = some (.lst us) → RVs K B S H us ds → RVs K B S H xs dxs → f k ds dxs S = some (d, S') →
    (∀ B' v H', Stp B S H B' S' H' → RS P w K B' S' H' → RV K B' S' H' v d → Q v H') → r (.ref (B k)) xs H Q
def apnd : DM := fun k ds xs S => match xs with
  | [x] => if ds.length < sizeLine then some (.non, S.set k (.lst (ds ++ [x]))) else none
  | _ => none
def popM : DM := fun k ds xs S => match xs with
  | [] => (ds[ds.length - 1]?).map fun d => (d, S.set k (.lst ds.dropLast))
  | _ => none
def popAtM : DM := fun k ds xs S => match xs with
  | [.int i] => if -(2 ^ 63) ≤ i ∧ i < 2 ^ 63 then (match seqIndex? i ds.length with
    | some j => (ds[j]?).map fun d => (d, S.set k (.lst (ds.eraseIdx j)))
    | none => none) else none
  | _ => none
def extM : DM := fun k ds xs S => match xs with
  | [x] => (match asL S x with
    | some es => if ds.length + es.length ≤ sizeLine then some (.non, S.set k (.lst (ds ++ es))) else none
    | none => none)
  | _ => none
section
variable {P : Program} {w : World} {K : PySem.W.Frag}
theorem okm_append : OkM P w K rAppend apnd := by
  intro B S H k ds xs dxs us d S' Q hs ek hk ru rx e kk
  unfold apnd at e
  split at e
  · split at e
    · rename_i hl
      cases e
      obtain ⟨v, rfl, r⟩ := rx.one
      obtain ⟨h1, h2⟩ := cell_put hs ek (ru.append (.cons r .nil))
      exact ⟨_, us, v, rfl, rfl, hk, by rw [ru.length]; exact hl, kk B _ _ h1 h2 .non⟩
    · cases e
  · cases e
theorem okm_pop : OkM P w K rPop popM := by
  intro B S H k ds xs dxs us d S' Q hs ek hk ru rx e kk
  unfold popM at e
  split at e
  · obtain ⟨z, e1, e2⟩ := Option.map_eq_some_iff.mp e
    cases e2
    cases rx
    obtain ⟨v, hv, r⟩ := ru.get e1
    obtain ⟨h1, h2⟩ := cell_put hs ek ru.dropLast
    exact ⟨_, us, v, rfl, rfl, hk, by rw [ru.length]; exact hv, kk B _ _ h1 h2 (RV.mono h1 _ _ r)⟩
  · cases e
theorem okm_popAt : OkM P w K rPopAt popAtM := by
  intro B S H k ds xs dxs us d S' Q hs ek hk ru rx e kk
  unfold popAtM at e
  split at e
  · split at e
    · rename_i hb
      split at e
      · rename_i j hj
        obtain ⟨z, e1, e2⟩ := Option.map_eq_some_iff.mp e
        cases e2
        obtain ⟨u, rfl, r1⟩ := rx.one
        cases r1.intI
        obtain ⟨v, hv, r⟩ := ru.get e1
        obtain ⟨h1, h2⟩ := cell_put hs ek (ru.erase j)
        exact ⟨_, us, _, j, v, rfl, rfl, hk, hb.1, hb.2, by rw [ru.length]; exact hj, hv, kk B _ _ h1 h2 (RV.mono h1 _ _ r)⟩
      · cases e
    · cases e
  · cases e
end
theorem pd_m {X : Cx} {o e : Expr} {es : List Expr} {co : DE} {ca : DA} {name : Str} {apos cpos : Pos} {id : String} {r : V → List V → Hp → VK → Prop} {f : DM} (slot : Slot "list" name id) (hty : typeOf (.builtin id) = pure (.type "method_descriptor")) (hm : MtR X id r) (hf : OkM X.prog X.w X.K r f) (ho : PD X o co) (ha : PDA X (e :: es) ca)
    (hbase : attributeBase o name X.env (eval o X.env) = eval o X.env := by rfl)
    (hfew : ((backTo cpos (starEach (e :: es) X.env)).all (fun x => !x.1) && (backToKw cpos (keywordEach [] X.env)).all (fun x => x.1.isSome)
      && decide ((e :: es).length + ([] : List Keyword).length + (if ([] : List Keyword).isEmpty then 0 else 1) < 30)) = true := by rfl)
    (hline : (apos.endLine == cpos.line) = true := by rfl) (hs : starEach (e :: es) X.env = (false, eval e X.env) :: starEach es X.env := by rfl) (hplain : (backTo cpos (starEach es X.env)).any (·.1) = false := by rfl) :
    PD X (.Call (.Attribute o name apos) (e :: es) [] cpos) (cM f co ca) :=
  pe_imp (pe_bm F.plainAttrs_list slot hty hm ho ha hbase hfew hline hs hplain) fun σ H Q ⟨B, ρ, S, d, S', hs, he, e, k⟩ => by
    unfold cM at e
    split at e
    · rename_i j S1 e1
      split at e
      · rename_i us hj
        split at e
        · rename_i xs S2 e2
          split at e
          · rename_i ds hd
            refine ⟨B, ρ, S, _, S1, hs, he, e1, fun B1 v1 H1 st1 hs1 r1 => ?_⟩
            cases r1 with
            | ref lt =>
              obtain ⟨vs, hv, _⟩ := cell_at hs1 hj
              refine ⟨.inl ⟨rfl, vs, SqL.of hv⟩, B1, ρ, S1, xs, S2, hs1, he.mono st1, e2, fun B2 ys H2 st2 hs2 r2 => ?_⟩
              obtain ⟨ws, hw, rw'⟩ := cell_at hs2 hd
              rw [← st2.agr j lt]
              exact hf B2 S2 H2 j ds ys xs ws d S' Q hs2 hd hw rw' r2 e fun B3 v3 H3 st3 hs3 r3 => k B3 v3 H3 ((st1.trans st2).trans st3) hs3 r3
          · cases e
        · cases e
      · cases e
    · cases e
theorem pd_m0 {X : Cx} {o : Expr} {co : DE} {name : Str} {apos cpos : Pos} {id : String} {r : V → List V → Hp → VK → Prop} {f : DM} (slot : Slot "list" name id) (hty : typeOf (.builtin id) = pure (.type "method_descriptor")) (hm : MtR X id r) (hf : OkM X.prog X.w X.K r f) (ho : PD X o co)
    (hbase : attributeBase o name X.env (eval o X.env) = eval o X.env := by rfl) (hline : (apos.endLine == cpos.line) = true := by rfl) : PD X (.Call (.Attribute o name apos) [] [] cpos) (cM f co cNil) :=
  pe_imp (pe_bm0 F.plainAttrs_list slot hty hm ho hbase hline) fun σ H Q ⟨B, ρ, S, d, S', hs, he, e, k⟩ => by
    unfold cM at e
    split at e
    · rename_i j S1 e1
      split at e
      · rename_i us hj
        unfold cNil at e
        simp only at e
        split at e
        · rename_i ds hd
          refine ⟨B, ρ, S, _, S1, hs, he, e1, fun B1 v1 H1 st1 hs1 r1 => ?_⟩
          cases r1 with
          | ref lt =>
            obtain ⟨vs, hv, rv⟩ := cell_at hs1 hd
            refine ⟨.inl ⟨rfl, vs, SqL.of hv⟩, ?_⟩
            exact hf B1 S1 H1 j ds [] [] vs d S' Q hs1 hd hv rv .nil e fun B3 v3 H3 st3 hs3 r3 => k B3 v3 H3 (st1.trans st3) hs3 r3
        · cases e
      · cases e
    · cases e
section
variable {X : Cx} {o e : Expr} {es : List Expr} {co : DE} {ca : DA} {apos cpos : Pos}
theorem pd_append (ho : PD X o co) (ha : PDA X [e] ca)
    (hbase : attributeBase o "append" X.env (eval o X.env) = eval o X.env := by rfl)
    (hfew : ((backTo cpos (starEach [e] X.env)).all (fun x => !x.1) && (backToKw cpos (keywordEach [] X.env)).all (fun x => x.1.isSome)
      && decide ([e].length + ([] : List Keyword).length + (if ([] : List Keyword).isEmpty then 0 else 1) < 30)) = true := by rfl)
    (hline : (apos.endLine == cpos.line) = true := by rfl) (hs : starEach [e] X.env = (false, eval e X.env) :: starEach [] X.env := by rfl) (hplain : (backTo cpos (starEach [] X.env)).any (·.1) = false := by rfl) :
    PD X (.Call (.Attribute o "append" apos) [e] [] cpos) (cM apnd co ca) := pd_m F.slot_list_append F.type_list_append mt_append okm_append ho ha hbase hfew hline hs hplain
theorem pd_pop (ho : PD X o co)
    (hbase : attributeBase o "pop" X.env (eval o X.env) = eval o X.env := by rfl) (hline : (apos.endLine == cpos.line) = true := by rfl) : PD X (.Call (.Attribute o "pop" apos) [] [] cpos) (cM popM co cNil) := pd_m0 F.slot_list_pop F.type_list_pop mt_pop okm_pop ho hbase hline
theorem pd_popAt (ho : PD X o co) (ha : PDA X [e] ca)
    (hbase : attributeBase o "pop" X.env (eval o X.env) = eval o X.env := by rfl)
    (hfew : ((backTo cpos (starEach [e] X.env)).all (fun x => !x.1) && (backToKw cpos (keywordEach [] X.env)).all (fun x => x.1.isSome)
      && decide ([e].length + ([] : List Keyword).length + (if ([] : List Keyword).isEmpty then 0 else 1) < 30)) = true := by rfl)
    (hline : (apos.endLine == cpos.line) = true := by rfl) (hs : starEach [e] X.env = (false, eval e X.env) :: starEach [] X.env := by rfl) (hplain : (backTo cpos (starEach [] X.env)).any (·.1) = false := by rfl) :
    PD X (.Call (.Attribute o "pop" apos) [e] [] cpos) (cM popAtM co ca) := pd_m F.slot_list_pop F.type_list_pop mt_popAt okm_popAt ho ha hbase hfew hline hs hplain
end

/-! ### xs[i] = v, xs[i] op= v -/
def setAt (k : Nat) (i : Int) (v : D) (S : Store) : Option Store := match S[k]? with
  | some (.lst ds) => (match ixN ds.length i with
    | some j => some (S.set k (.lst (ds.set j v)))
    | none => none)
  | _ => none
def sSetIx (o i v : DE) : DS := fun ρ S => match v ρ S with
  | some (d, S1) => (match o ρ S1 with
    | some (.ref k, S2) => (match i ρ S2 with
      | some (.int n, S3) => (match setAt k n d S3 with
        | some S4 => some (.nx ρ S4)
        | none => none)
      | _ => none)
    | _ => none)
  | none => none
theorem setAt_ok {P : Program} {w : World} {K : PySem.W.Frag} {B : Wd} {S S' : Store} {H : Hp} {k : Nat} {i : Int} {v : V} {d : D} {Q : Hp → Prop} (hs : RS P w K B S H) (r : RV K B S H v d) (e : setAt k i d S = some S') (q : ∀ H', Stp B S H B S' H' → RS P w K B S' H' → Q H') : rSetL (.ref (B k)) (.int i) v H Q := by
  unfold setAt at e
  split at e
  · rename_i ds hd
    split at e
    · rename_i j hj
      cases e
      obtain ⟨us, hu, ru⟩ := cell_at hs hd
      obtain ⟨h1, h2⟩ := cell_put hs hd (ru.set r j)
      exact ⟨_, us, i, j, rfl, rfl, hu, by rw [ru.length]; exact hj, q _ h1 h2⟩
    · cases e
  · cases e
theorem pds_setIx {X : Cx} {o i e : Expr} {co ci ce : DE} {pos tpos : Pos} (ho : PD X o co) (hi : PD X i ci) (he : PD X e ce)
    (ha : ∀ v, assign (.Subscript o i tpos) X.env v = (do
      let ov ← holding [v] (eval o X.env)
      let iv ← holding [v, ov] (eval i X.env)
      standAt tpos
      holding [v, ov, iv] (setItem ov iv v)
      release [v, ov, iv] []) := by intro _; rfl) (hs : swapsWithSole [.Subscript o i tpos] e pos.line X.env = pure false := by rfl) (hw : swappedStores [.Subscript o i tpos] e X.env = pure none := by rfl)
    (h1 : (assignEach [.Subscript o i tpos] X.env).map (·.2) = [assign (.Subscript o i tpos) X.env] := by rfl) : PDS X (.Assign [.Subscript o i tpos] e pos) (sSetIx co ci ce) :=
  ps_imp (ps_asg he (pg_sub ho hi set_list ha) hs hw h1) fun E σ H ⟨B, ρ, S, f, hs, he, ef, k⟩ => by
    unfold sSetIx at ef
    split at ef
    · rename_i d S1 e1
      split at ef
      · rename_i j S2 e2
        split at ef
        · rename_i n S3 e3
          split at ef
          · rename_i S4 e4
            cases ef
            refine ⟨B, ρ, S, d, S1, hs, he, e1, fun B1 v1 H1 st1 hs1 r1 => ⟨B1, ρ, S1, _, S2, hs1, he.mono st1, e2, fun B2 v2 H2 st2 hs2 r2 => ⟨B2, ρ, S2, _, S3, hs2, he.mono (st1.trans st2), e3, fun B3 v3 H3 st3 hs3 r3 => ?_⟩⟩⟩
            cases r3.intI
            cases r2 with
            | ref lt =>
              rw [← st3.agr j lt]
              exact setAt_ok hs3 (RV.mono (st2.trans st3) _ _ r1) e4 fun H' st hs' => k B3 σ H' (((st1.trans st2).trans st3).trans st) hs' (he.mono (((st1.trans st2).trans st3).trans st))
          · cases ef
        · cases ef
      · cases ef
    · cases ef
/-- a list's item, as the augmented assignment reads it -/
def rGetL : V → V → Hp → VK → Prop := fun o i H Q => ∃ p xs k v, o = .ref p ∧ i = .int k ∧ H p = some (.lst xs) ∧ L2.atI xs k = some v ∧ Q v H
theorem get_list {X : Cx} : PGet X rGetL := by
  intro pins s σ H x y v u Q I rx ry h
  obtain ⟨p, xs, i, z, rfl, rfl, hq, he, q⟩ := h
  cases rx
  obtain ⟨t, rfl⟩ := ry
  obtain ⟨its, r, pl, hz⟩ := I.list (SqL.of hq)
  obtain ⟨j, h1, h2, h3, h4, h5⟩ := atI_get he
  obtain ⟨w, ew, rw'⟩ := r.get h2
  have hl := r.length
  have hn := line63
  have fin : EP X pins σ Q w s := ⟨z, H, I, rw', q⟩
  by_cases h0 : 0 ≤ i
  · have hj : i.toNat = j := by
      rw [seqIndex_of h0 h5] at h1
      exact Option.some.inj h1
    exact wpAny_getItem_list pl.isList h0 (by omega) (by rw [hj]; simpa using ew) fin
  · have hj : (i + (its.toArray.size : Int)).toNat = j := by
      rw [seqIndex_neg (by omega) h4] at h1
      rw [List.size_toArray, ← hl]
      exact Option.some.inj h1
    exact wpAny_getItem_list_neg pl.isList (by omega) (by rw [List.size_toArray] <;> omega) (by omega) (by rw [hj]; simpa using ew) fin
def sAugIx (f : D → D → Store → Option (D × Store)) (o i v : DE) : DS := fun ρ S => match o ρ S with
  | some (.ref k, S1) => (match i ρ S1 with
    | some (.int n, S2) => (match S2[k]? with
      | some (.lst ds) => (match L2.atI ds n with
        | some x => (match v ρ S2 with
          | some (y, S3) => (match f x y S3 with
            | some (z, S4) => (match setAt k n z S4 with
              | some S5 => some (.nx ρ S5)
              | none => none)
            | none => none)
          | none => none)
        | none => none)
      | _ => none)
    | _ => none)
  | _ => none
theorem pds_augIx {X : Cx} {o i e : Expr} {co ci ce : DE} {pos tpos : Pos} {op : Operator} {r : R2} {f : D → D → Store → Option (D × Store)} (hop : OpR X (inplaceOp op) r) (hf : Ok2 X.prog X.w X.K r f) (ho : PD X o co) (hi : PD X i ci) (he : PD X e ce)
    (ha : ∀ ov iv new, augStore i ov iv new = (do holding [new, ov, iv] (setItem ov iv new); release [new, ov, iv] []; pure .next) := by intros; rfl) : PDS X (.AugAssign (.Subscript o i tpos) op e pos) (sAugIx f co ci ce) :=
  ps_imp (ps_augS ho hi get_list he (fun pins s σ H x y v u Q I rx ry q => hop pins s σ H x y v u Q I rx ry q) set_list ha) fun E σ H ⟨B, ρ, S, fl, hs, he, ef, k⟩ => by
    unfold sAugIx at ef
    split at ef
    · rename_i j S1 e1
      split at ef
      · rename_i n S2 e2
        split at ef
        · rename_i ds hd
          split at ef
          · rename_i x hx
            split at ef
            · rename_i y S3 e3
              split at ef
              · rename_i z S4 e4
                split at ef
                · rename_i S5 e5
                  cases ef
                  refine ⟨B, ρ, S, _, S1, hs, he, e1, fun B1 v1 H1 st1 hs1 r1 => ⟨B1, ρ, S1, _, S2, hs1, he.mono st1, e2, fun B2 v2 H2 st2 hs2 r2 => ?_⟩⟩
                  cases r2.intI
                  cases r1 with
                  | ref lt =>
                    obtain ⟨us, hu, ru⟩ := cell_at hs2 hd
                    obtain ⟨v, hv, rv⟩ := ru.atI hx
                    have lt2 := Nat.lt_of_lt_of_le lt st2.len
                    refine ⟨_, us, n, v, by rw [← st2.agr j lt], rfl, hu, hv, B2, ρ, S2, y, S3, hs2, he.mono (st1.trans st2), e3, fun B3 v3 H3 st3 hs3 r3 => ?_⟩
                    refine hf B3 S3 H3 v v3 x y z S4 _ hs3 (RV.mono st3 _ _ rv) r3 e4 fun B4 v4 H4 st4 hs4 r4 => ?_
                    have ea : B1 j = B4 j := by
                      rw [(st3.trans st4).agr j lt2, st2.agr j lt]
                    rw [ea]
                    exact setAt_ok hs4 r4 e5 fun H' st hs' => k B4 σ H' ((((st1.trans st2).trans st3).trans st4).trans st) hs' (he.mono ((((st1.trans st2).trans st3).trans st4).trans st))
                · cases ef
              · cases ef
            · cases ef
          · cases ef
        · cases ef
      · cases ef
    · cases ef

/-! ### (x,) * n -/
theorem tuple_mul1 (l : Addr) (items : Array Value) (n : Nat) (sl : Array (Option Value)) (x : Int) (u : Tok) (dd : Option Addr) (hx : x = 1) :
    Meets (Builtin.«tuple.__mul__» ⟨[.ref l, .int x u], []⟩) (fun _ R s => s.heap.get? l = some { cls := .type "tuple", dict := dd, data := .seq items n, slots := sl } ∧ R (.ok (.ret (.ref l))) s) :=
  .of_wp fun prog w A R s h => by
    subst hx
    obtain ⟨hp, g, d, tk, os⟩ := s
    obtain ⟨hl, h⟩ := h
    have f1 := AutoSeq1.idx_int
    have c0 : (decide ((1 : Int) < -(2 ^ 63)) || decide ((1 : Int) ≥ 2 ^ 63)) = false := by decide
    have c1 : (items.isEmpty || (1 : Int) == 1) = true := by simp
    wp_walk using wpAny_loadPart' hl
    repeat (first
      | (refine wpAny_ite_false (decide_eq_false (by rw [c0]; exact Bool.false_ne_true)) ?_; wp_walk using wpAny_loadPart' hl)
      | (refine wpAny_ite_true (decide_eq_true c1) ?_; wp_walk using wpAny_loadPart' hl))
    exact ⟨_, rfl, h⟩
def rRep1 (K : PySem.W.Frag) : R2 := fun x y H Q => ∃ l xs, x = .ref l ∧ y = .int 1 ∧ SqT K H l xs ∧ Q (.ref l) H
theorem op_rep1 {X : Cx} : OpR X (binaryOp .Mult) (rRep1 X.K) := by
  intro pins s σ H x y v u Q I rx ry h
  obtain ⟨l, xs, rfl, rfl, hT, q⟩ := h
  cases rx
  obtain ⟨t, rfl⟩ := ry
  obtain ⟨its, r, ⟨⟨cls, dd, data, sl⟩, ho, hc, n, hd⟩, hs⟩ := I.tuple hT
  simp only at hc hd
  subst hc hd
  exact wpAny_binaryOp_repeat_ref (T := "tuple") (U := "int") (by decide) ⟨_, ho, rfl⟩ (fun s' => typeIs_int s' 1 t) noFill_tuple_mul F.fills_int_mul F.slot_int_rmul repeat_tuple F.slot_int_index.lookup
    (call_meets F.slot_int_rmul (typeIs_int s 1 t) F.entry_int_rmul (F.args_int_rmul_2 _ _) (int_rmul_tuple 1 t l its.toArray n dd sl)
      ⟨ho, rfl, ⟨_, ho, rfl⟩, call_meets F.slot_tuple_mul ⟨_, ho, rfl⟩ F.entry_tuple_mul (F.args_tuple_mul_2 _ _) (tuple_mul1 l its.toArray n sl 1 t dd rfl) ⟨ho, ⟨.ref l, H, I, rfl, q⟩⟩⟩)
def repD : D → D → Store → Option (D × Store) := fun x y S => match x, y with
  | .tup xs, .int k => if xs ≠ [] ∧ xs.length ≤ 1000 ∧ 1 ≤ k ∧ k ≤ 1000 then some (.tup (List.replicate k.toNat xs).flatten, S) else none
  | _, _ => none
theorem ok_rep {P : Program} {w : World} {K : PySem.W.Frag} : Ok2 P w K (fun x y H Q => rRepT K x y H Q ∨ rRep1 K x y H Q) repD := by
  intro B S H x y dx dy d S' Q hs rx ry e k
  unfold repD at e
  split at e
  · split at e
    · rename_i xs n hc
      obtain ⟨hc1, hc2, hc3, hc4⟩ := hc
      cases e
      obtain ⟨a, us, rfl, ha, ru⟩ := id rx.tupI
      cases ry.intI
      by_cases h1 : n = 1
      · subst h1
        refine .inr ⟨a, us, rfl, rfl, ha, k B _ H (Stp.refl ..) hs ?_⟩
        have e : (List.replicate (1 : Int).toNat xs).flatten = xs := by simp
        rw [e]
        exact rx
      · refine .inl ⟨a, n, us, rfl, rfl, ha, ?_, by omega, hc4, by rw [ru.length]; exact hc2, fun p hp => k B _ _ (Stp.new hs hp) (hs.new hp) (RV.newTup hs hp (ru.rep _))⟩
        rintro rfl
        cases ru
        exact hc1 rfl
    · cases e
  · cases e
theorem pd_rep {X : Cx} {a b : Expr} {ca cb : DE} {pos : Pos} (ha : PD X a ca) (hb : PD X b cb) : PD X (.BinOp a .Mult b pos) (cBin repD ca cb) := pd_op (OpR.or op_repT op_rep1) ok_rep ha hb
theorem pd_glob {X : Cx} {x : Str} {i : Int} {u : Value} {pos : Pos} (hg : Gl X x) (hm : X.mg x = some u) (r : RelV (.int i) u) (hd : (x == ("__debug__" : Str)) = false := by decide) : PD X (.Name x pos) (cC (.int i)) :=
  pd_const (pe_glob hg hm r hd) fun _ _ _ => .int i
end DL

/-! Dicts: by ints and texts, by nested tuples. -/
namespace DL
open PySem PySem.Spec PyProof.Rows L2

def keyK : D → Option Key
  | .int i => some (.inl i)
  | .str x => some (.inr x)
  | _ => none
def kLook (kvs : List (Key × D)) (k : Key) : Option D := (kvs.find? fun kv => decide (kv.1 = k)).map (·.2)
def kPut (kvs : List (Key × D)) (k : Key) (v : D) : List (Key × D) :=
  if (kvs.any fun kv => decide (kv.1 = k)) = true then kvs.map (fun kv => if kv.1 = k then (kv.1, v) else kv) else kvs ++ [(k, v)]
/-- the entry; none outside: not covered -/
def lookD (S : Store) (x y : D) : Option (Option D) := match x with
  | .ref k => (match S[k]? with
    | some (.dK _ kvs) => (keyK y).map fun q => kLook kvs q
    | some (.dN _ kvs) => if okTup y = true then some (dLook kvs y) else none
    | _ => none)
  | _ => none
def putD (S : Store) (x y v : D) : Option Store := match x with
  | .ref k => (match S[k]? with
    | some (.dK false kvs) => (match keyK y with
      | some q => if kvs.length < sizeLine then some (S.set k (.dK false (kPut kvs q v))) else none
      | none => none)
    | some (.dN false kvs) => if okTup y = true ∧ kvs.length < sizeLine then some (S.set k (.dN false (dPut kvs y v))) else none
    | _ => none)
  | _ => none

section
variable (K : PySem.W.Frag) (B : Wd) (S : Store) (H : Hp)
def LkV (o : Option V) : Option D → Prop
  | some d => ∃ v, o = some v ∧ RV K B S H v d
  | none => o = none
def LkN (xs : List (NestedKey × Addr × Value)) (k : NestedKey) : Option D → Prop
  | some d => ∃ p v, atKey xs k = some p ∧ RelV v p.2 ∧ RV K B S H v d
  | none => atKey xs k = none
end
section
variable {P : Program} {w : World} {K : PySem.W.Frag} {B : Wd} {S : Store} {H : Hp}
theorem krel_look (k : Key) : ∀ {kxs : List (Key × V)} {kvs : List (Key × D)}, KRel K B S H kxs kvs → LkV K B S H (valV kxs k) (kLook kvs k)
  | _, _, .nil => rfl
  | _, _, .cons (a := p) (b := q) (l₁ := l1) (l₂ := l2) r t => by
    have ih := krel_look k t
    by_cases e : q.1 = k
    · have e1 : kLook (q :: l2) k = some q.2 := by simp [kLook, e]
      rw [e1]
      exact ⟨p.2, valV_pos (r.1.trans e), r.2⟩
    · have e1 : kLook (q :: l2) k = kLook l2 k := by simp [kLook, e]
      rw [e1, valV_neg (fun z => e (r.1.symm.trans z))]
      exact ih
theorem krel_any (k : Key) : ∀ {kxs : List (Key × V)} {kvs : List (Key × D)}, KRel K B S H kxs kvs → (kxs.any fun kv => decide (kv.1 = k)) = (kvs.any fun kv => decide (kv.1 = k))
  | _, _, .nil => rfl
  | _, _, .cons r t => by
    rw [List.any_cons, List.any_cons, krel_any k t, r.1]
theorem paired_len {α β : Type} {F : α → β → Prop} : ∀ {l : List α} {m : List β}, Paired F l m → l.length = m.length
  | _, _, .nil => rfl
  | _, _, .cons _ t => by simp [paired_len t]
theorem krel_put {v : V} {d : D} (k : Key) (r : RV K B S H v d) {kxs : List (Key × V)} {kvs : List (Key × D)} (h : KRel K B S H kxs kvs) : KRel K B S H (putK kxs k v) (kPut kvs k d) := by
  unfold putK kPut
  rw [krel_any k h]
  split
  · rename_i hany
    clear hany
    unfold KRel at h ⊢
    induction h with
    | nil => exact .nil
    | @cons p q l1 l2 hh t ih =>
      rw [List.map_cons, List.map_cons]
      refine .cons ?_ ih
      obtain ⟨h1, h2⟩ := hh
      by_cases e : q.1 = k
      · rw [if_pos (h1.trans e), if_pos e]
        exact ⟨h1, r⟩
      · rw [if_neg (fun z => e (h1.symm.trans z)), if_neg e]
        exact ⟨h1, h2⟩
  · exact Paired.snoc h ⟨rfl, r⟩
theorem nrel_look (k : D) : ∀ {kvs : List (D × D)} {xs : List (NestedKey × Addr × Value)}, NRel K B S H kvs xs → LkN K B S H xs (keyD k) (dLook kvs k)
  | _, _, .nil => rfl
  | _, _, .cons (a := p) (b := q) (l₁ := l1) (l₂ := l2) r t => by
    have ih := nrel_look k t
    obtain ⟨h1, h2, h3, v, h4, h5⟩ := r
    by_cases e : keyD p.1 = keyD k
    · have e1 : dLook (p :: l1) k = some p.2 := by simp [dLook, e]
      rw [e1]
      exact ⟨q.2, v, by simp [atKey, h2.trans e], h4, h5⟩
    · have e1 : dLook (p :: l1) k = dLook l1 k := by simp [dLook, e]
      have hn : ¬ q.1 = keyD k := fun z => e (h2.symm.trans z)
      have e2 : atKey (q :: l2) (keyD k) = atKey l2 (keyD k) := by simp [atKey, List.find?_cons, hn]
      have e3 : LkN K B S H (q :: l2) (keyD k) = LkN K B S H l2 (keyD k) := by
        funext od
        cases od with
        | none => show (atKey _ _ = none) = (atKey _ _ = none); rw [e2]
        | some d => show (∃ p v, atKey _ _ = some p ∧ _) = (∃ p v, atKey _ _ = some p ∧ _); rw [e2]
      rw [e1, e3]
      exact ih
theorem nrel_map {u : Value} {v : V} {d k : D} (r : RV K B S H v d) (ru : RelV v u) {kvs : List (D × D)} {xs : List (NestedKey × Addr × Value)} (h : NRel K B S H kvs xs) :
    NRel K B S H (kvs.map fun p => if keyD p.1 = keyD k then (p.1, d) else p) (xs.map (putAt (keyD k) u)) := by
  unfold NRel at h ⊢
  induction h with
  | nil => exact .nil
  | @cons p q l1 l2 hh t ih =>
    rw [List.map_cons, List.map_cons]
    refine .cons ?_ ih
    obtain ⟨h1, h2, h3, h4⟩ := hh
    by_cases e : keyD p.1 = keyD k
    · rw [if_pos e, putAt, if_pos (h2.trans e)]
      exact ⟨h1, h2, h3, v, ru, r⟩
    · rw [if_neg e, putAt, if_neg (fun z => e (h2.symm.trans z))]
      exact ⟨h1, h2, h3, h4⟩
theorem nrel_put {b : Addr} {u : Value} {v : V} {d k : D} (r : RV K B S H v d) (ru : RelV v u) (hk : okTup k = true) (rb : RV K B S H (.ref b) k) {kvs : List (D × D)} {xs : List (NestedKey × Addr × Value)} (h : NRel K B S H kvs xs) :
    NRel K B S H (dPut kvs k d) (storedH xs (keyD k) b u) := by
  have hl := nrel_look k h
  unfold dPut storedH
  cases e : dLook kvs k with
  | none =>
    rw [e] at hl
    rw [hl]
    exact Paired.snoc h ⟨hk, rfl, rb, v, ru, r⟩
  | some z =>
    rw [e] at hl
    obtain ⟨p0, _, hp, _⟩ := hl
    rw [hp]
    simp only [Option.isSome_some, if_true]
    exact nrel_map r ru h
end

section
variable {X : Cx} {pins : List (Addr × Obj)} {σ : L2.St} {s : Shared} {B : Wd} {S : Store} {H : Hp}
mutual
theorem nested_of (I : Inv X pins σ H s) : ∀ (d : D) (v : V) (u : Value), RV X.K B S H v d → okKey d = true → RelV v u → NestedIs s.heap (keyD d) u
  | .non, _, _, r, _, q => by cases r; cases q; exact .none
  | .int i, _, _, r, _, q => by cases r; obtain ⟨t, rfl⟩ := q; exact .int i t
  | .str x, _, _, r, _, q => by cases r; obtain ⟨t, rfl⟩ := q; exact .text x t
  | .bl _, _, _, _, k, _ => by cases k
  | .lst _, _, _, _, k, _ => by cases k
  | .scr _, _, _, _, k, _ => by cases k
  | .ref _, _, _, _, k, _ => by cases k
  | .tup ds, v, u, r, k, q => by
    have k' : okKeys ds = true := k
    have z : ∃ a xs, SqT X.K H a xs ∧ RVs X.K B S H xs ds ∧ v = V.ref a := by
      cases r with
      | tup e n r => exact ⟨_, _, SqT.of e, r, rfl⟩
      | tupK e r => exact ⟨_, _, e H, r, rfl⟩
    obtain ⟨a, xs, hq, rr, e⟩ := z
    subst e
    cases q
    obtain ⟨its, rv, ⟨o, ho, hc, n, hd⟩, _⟩ := I.tuple hq
    exact .tup ho hc hd (by simpa using nesteds_of I ds xs its rr k' rv)
theorem nesteds_of (I : Inv X pins σ H s) : ∀ (ds : List D) (vs : List V) (us : List Value), RVs X.K B S H vs ds → okKeys ds = true → Vals vs us → NestedAll s.heap (keyDs ds) us
  | [], _, _, r, _, q => by cases r; cases q; exact .nil
  | d :: ds, _, _, r, k, q => by
    have k' : (okKey d && okKeys ds) = true := k
    rw [Bool.and_eq_true] at k'
    cases r with
    | cons r1 r2 =>
      cases q with
      | cons q1 q2 => exact .cons (nested_of I d _ _ r1 k'.1 q1) (nesteds_of I ds _ _ r2 k'.2 q2)
end
theorem key_is (I : Inv X pins σ H s) {d : D} {v : V} {u : Value} (r : RV X.K B S H v d) (k : okTup d = true) (q : RelV v u) : ∃ b, u = .ref b ∧ v = .ref b ∧ (nestedKind X.prog X.w).is s.heap (keyD d) b := by
  cases d with
  | tup ds =>
    have k' : (okKeys ds && decide ((keyD (.tup ds)).depth ≤ 8)) = true := k
    rw [Bool.and_eq_true] at k'
    have z : ∃ a, v = .ref a := by cases r <;> exact ⟨_, rfl⟩
    obtain ⟨a, rfl⟩ := z
    cases q
    exact ⟨a, rfl, rfl, nested_of I _ _ _ r (show okKeys ds = true from k'.1) rfl, of_decide_eq_true k'.2⟩
  | _ => cases k
theorem ndict_of (I : Inv X pins σ H s) {a : Addr} {o : Obj} {xs : List (NestedKey × Addr × Value)} {kvs : List (D × D)} (h : H a = some (isO a o)) (n : NObj X.prog X.w o xs) (r : NRel X.K B S H kvs xs) : s.heap.DictOfH (nestedKind X.prog X.w) a xs := by
  obtain ⟨n1, ⟨es, ep, n2, n3⟩, n4⟩ := n
  have ho : s.heap.get? a = some o := (show ObjOk X.prog X.w H s.heap a (isO a o) from I.hok a _ h).1
  refine ⟨o, es, ep, ho, n1, n2, n3, fun x hx => ?_, n4⟩
  clear n2 n3 n4
  unfold NRel at r
  induction r with
  | nil => cases hx
  | @cons p q l1 l2 hh t ih =>
    rcases List.mem_cons.mp hx with e | hx
    · subst e
      obtain ⟨h1, h2, h3, _⟩ := hh
      obtain ⟨b, e1, e2, h4⟩ := key_is I (u := .ref x.2.1) h3 h1 rfl
      cases e1
      rw [h2]
      exact h4
    · exact ih hx
theorem keyK_v {y : V} {dy : D} {q : Key} (r : RV X.K B S H y dy) (e : keyK dy = some q) : y = kV q := by
  cases r <;> first
    | (cases e; rfl)
    | cases e
theorem lookD_inv {S : Store} {x y : D} {od : Option D} (e : lookD S x y = some od) : ∃ k, x = .ref k ∧ ((∃ lk kvs q, S[k]? = some (.dK lk kvs) ∧ keyK y = some q ∧ od = kLook kvs q) ∨ (∃ lk kvs, S[k]? = some (.dN lk kvs) ∧ okTup y = true ∧ od = dLook kvs y)) := by
  unfold lookD at e
  split at e
  · rename_i k
    refine ⟨k, rfl, ?_⟩
    split at e
    · rename_i lk kvs ek
      obtain ⟨q, e1, e2⟩ := Option.map_eq_some_iff.mp e
      exact .inl ⟨lk, kvs, q, ek, e1, e2.symm⟩
    · rename_i lk kvs ek
      split at e
      · rename_i hk
        cases e
        exact .inr ⟨lk, kvs, ek, hk, rfl⟩
      · cases e
    · cases e
  · cases e
/-- the two kinds of dict -/
theorem look_cases (I : Inv X pins σ H s) (hs : RS X.prog X.w X.K B S H) {x y : V} {dx dy : D} {od : Option D} {u iv : Value} (rx : RV X.K B S H x dx) (ry : RV X.K B S H y dy) (e : lookD S dx dy = some od) (ru : RelV x u) (rv : RelV y iv) :
    ∃ a, u = .ref a ∧ x = .ref a ∧ (a == sysModules) = false ∧ s.TypeIs (.ref a) "dict" ∧ (∀ b, Value.ref a = .ref b → ∃ ob, s.heap.get? b = some ob ∧ ob.dict = none) ∧
      ((∃ o, DGet H a y o ∧ LkV X.K B S H o od) ∨
      (∃ b k xs, iv = .ref b ∧ (nestedKind X.prog X.w).is s.heap k b ∧ s.heap.DictOfH (nestedKind X.prog X.w) a xs ∧ LkN X.K B S H xs k od)) := by
  obtain ⟨k, rfl, g⟩ := lookD_inv e
  cases rx with
  | ref lt =>
    cases ru
    rcases g with ⟨lk, kvs, q, ek, e1, rfl⟩ | ⟨lk, kvs, ek, hk, rfl⟩
    · obtain ⟨kxs, hr, hH⟩ := hs.cel k _ ek
      have rd : Rd H (B k) (.dK kxs) := by
        cases lk with
        | true => simp only [if_true] at hH; exact .inr hH
        | false => simp only [Bool.false_eq_true, if_false] at hH; exact .inl hH
      obtain ⟨z, hd, vs, rel, dd⟩ := dk_rd I.hok rd
      have g : DGet H (B k) y (valV kxs q) := .inl ⟨kxs, q, rd, keyK_v ry e1, rfl⟩
      exact ⟨_, rfl, rfl, hd, dd.typeIs, dict_noDict I g, .inl ⟨_, g, krel_look q hr⟩⟩
    · obtain ⟨o, xs, h1, h2, h3, h4, h5⟩ := hs.cel k _ ek
      obtain ⟨b, e1, e2, h6⟩ := key_is I ry hk rv
      have dd := ndict_of I h1 h4 h5
      refine ⟨_, rfl, rfl, h2, dd.typeIs, fun b q => ?_, .inr ⟨b, _, xs, e1, h6, dd, nrel_look dy h5⟩⟩
      cases q
      obtain ⟨ob, _, _, g1, g2, _⟩ := dd
      exact ⟨ob, g1, g2.2.1⟩
theorem room_in1 {A : Around} (hu : A.units + 64 < cLine) : (nestedKind X.prog X.w).room A.in1 := by
  show A.units + 1 + 8 < cLine
  omega
end
def dGetD : D → D → Store → Option (D × Store) := fun x y S => match lookD S x y with
  | some (some d) => some (d, S)
  | _ => none
def dInD : D → D → Store → Option (D × Store) := fun y x S => (lookD S x y).map fun o => (.bl o.isSome, S)
def dNotInD : D → D → Store → Option (D × Store) := fun y x S => (lookD S x y).map fun o => (.bl (!o.isSome), S)
section
variable {X : Cx} {o i : Expr} {pos : Pos} {co ci : DE}
/-- what the two values' readings leave -/
def LkR (P : Program) (w : World) (K : PySem.W.Frag) (f : Store → D → D → Option (D × Store)) : R2 := fun x y H Q => ∃ B S dx dy d S', RS P w K B S H ∧ RV K B S H x dx ∧ RV K B S H y dy ∧ f S dx dy = some (d, S') ∧ ∀ B' v H', Stp B S H B' S' H' → RS P w K B' S' H' → RV K B' S' H' v d → Q v H'
theorem pd_dget (hu : X.A.units + 64 < cLine) (ho : PD X o co) (hi : PD X i ci) (hs : NoSl i) : PD X (.Subscript o i pos) (cBin dGetD co ci) := by
  refine ⟨fun pins s σ H Q I h => ?_⟩
  have h := tD_bin (R := fun x y H => LkR X.prog X.w X.K (fun S x y => dGetD x y S) x y H Q) h fun B S H x y dx dy d S' hs rx ry e k => ⟨B, S, dx, dy, d, S', hs, rx, ry, e, k⟩
  refine subD_of PySem.F.slot_dict_getitem.lookup hs (thn (ho.run pins s σ H _ I h) fun u s1 ⟨x, H1, I1, rx, q1⟩ => thn (hi.run pins s1 σ H1 _ I1 q1) fun iv s2 ⟨y, H2, I2, ry, q2⟩ => ?_)
  obtain ⟨B, S, dx, dy, d, S', hs, r1, r2, e, k⟩ := q2
  have e : dGetD dx dy S = some (d, S') := e
  unfold dGetD at e
  split at e
  · rename_i d' el
    cases e
    obtain ⟨a, rfl, rfl, hd, ht, hn, g⟩ := look_cases I2 hs r1 r2 el rx ry
    refine ⟨ht, ?_⟩
    rcases g with ⟨ov, g, v, rfl, rv⟩ | ⟨b, q, xs, rfl, hk, dd, p, v, ep, rel, rv⟩
    · exact d_getItem (by omega) I2 g ry fun w' s3 I3 rw' => ⟨v, H2, I3, rw', k B v H2 (Stp.refl ..) hs rv⟩
    · exact wpAny_getItem_heap (room_in1 hu) hk dd ep ⟨v, H2, I2.tok _, rel, k B v H2 (Stp.refl ..) hs rv⟩
  · cases e
theorem pc_dIn (hu : X.A.units + 64 < cLine) (hi : PD X i ci) (ho : PD X o co) : PC X .In i o (tD X.prog X.w X.K (cBin dInD ci co)) := by
  refine ⟨fun pins s σ H Q I h => ?_⟩
  have h := tD_bin (R := fun x y H => LkR X.prog X.w X.K (fun S x y => dInD x y S) x y H Q) h fun B S H x y dx dy d S' hs rx ry e k => ⟨B, S, dx, dy, d, S', hs, rx, ry, e, k⟩
  refine thn (hi.run pins s σ H _ I h) fun iv s1 ⟨y, H1, I1, ry, q1⟩ => thn (ho.run pins s1 σ H1 _ I1 q1) fun u s2 ⟨x, H2, I2, rx, q2⟩ => ?_
  obtain ⟨B, S, dy, dx, d, S', hs, r2, r1, e, k⟩ := q2
  have e : dInD dy dx S = some (d, S') := e
  unfold dInD at e
  obtain ⟨od, el, e2⟩ := Option.map_eq_some_iff.mp e
  cases e2
  obtain ⟨a, rfl, rfl, hd, ht, hn, g⟩ := look_cases I2 hs r1 r2 el rx ry
  rcases g with ⟨ov, g, g2⟩ | ⟨b, q, xs, rfl, hk, dd, g2⟩
  · have eo : ov.isSome = od.isSome := by
      cases od with
      | none => rw [show ov = none from g2]; rfl
      | some d => obtain ⟨v, rfl, _⟩ := g2; rfl
    exact d_in (by omega) I2 g ry fun s3 I3 => ⟨.bl ov.isSome, H2, I3, rfl, k B _ H2 (Stp.refl ..) hs (by rw [eo]; exact .bl _)⟩
  · have eo : (atKey xs q).isSome = od.isSome := by
      cases od with
      | none => rw [show atKey xs q = none from g2]; rfl
      | some d => obtain ⟨p, v, e, _⟩ := g2; rw [e]; rfl
    exact wpAny_in_heap (room_in1 hu) hk hd dd ⟨.bl (atKey xs q).isSome, H2, I2.tok _, rfl, k B _ H2 (Stp.refl ..) hs (by rw [eo]; exact .bl _)⟩
theorem pc_dNotIn (hu : X.A.units + 64 < cLine) (hi : PD X i ci) (ho : PD X o co) : PC X .NotIn i o (tD X.prog X.w X.K (cBin dNotInD ci co)) := by
  refine ⟨fun pins s σ H Q I h => ?_⟩
  have h := tD_bin (R := fun x y H => LkR X.prog X.w X.K (fun S x y => dNotInD x y S) x y H Q) h fun B S H x y dx dy d S' hs rx ry e k => ⟨B, S, dx, dy, d, S', hs, rx, ry, e, k⟩
  refine thn (hi.run pins s σ H _ I h) fun iv s1 ⟨y, H1, I1, ry, q1⟩ => thn (ho.run pins s1 σ H1 _ I1 q1) fun u s2 ⟨x, H2, I2, rx, q2⟩ => ?_
  obtain ⟨B, S, dy, dx, d, S', hs, r2, r1, e, k⟩ := q2
  have e : dNotInD dy dx S = some (d, S') := e
  unfold dNotInD at e
  obtain ⟨od, el, e2⟩ := Option.map_eq_some_iff.mp e
  cases e2
  obtain ⟨a, rfl, rfl, hd, ht, hn, g⟩ := look_cases I2 hs r1 r2 el rx ry
  rcases g with ⟨ov, g, g2⟩ | ⟨b, q, xs, rfl, hk, dd, g2⟩
  · have eo : ov.isSome = od.isSome := by
      cases od with
      | none => rw [show ov = none from g2]; rfl
      | some d => obtain ⟨v, rfl, _⟩ := g2; rfl
    exact d_notIn (by omega) I2 g ry fun s3 I3 => ⟨.bl (!ov.isSome), H2, I3, rfl, k B _ H2 (Stp.refl ..) hs (by rw [eo]; exact .bl _)⟩
  · have eo : (atKey xs q).isSome = od.isSome := by
      cases od with
      | none => rw [show atKey xs q = none from g2]; rfl
      | some d => obtain ⟨p, v, e, _⟩ := g2; rw [e]; rfl
    exact wpAny_notIn_heap (room_in1 hu) hk hd dd ⟨.bl (!(atKey xs q).isSome), H2, I2.tok _, rfl, k B _ H2 (Stp.refl ..) hs (by rw [eo]; exact .bl _)⟩
theorem pd_in (hu : X.A.units + 64 < cLine) (hi : PD X i ci) (ho : PD X o co) (hm : behindInMarks .In o = false := by rfl) : PD X (.Compare i [.In] [o] pos) (cBin dInD ci co) := pe_cmp (pc_dIn hu hi ho) hm
theorem pd_notIn (hu : X.A.units + 64 < cLine) (hi : PD X i ci) (ho : PD X o co) (hm : behindInMarks .NotIn o = false := by rfl) : PD X (.Compare i [.NotIn] [o] pos) (cBin dNotInD ci co) := pe_cmp (pc_dNotIn hu hi ho) hm
theorem pdt_in (hu : X.A.units + 64 < cLine) (hi : PD X i ci) (ho : PD X o co) (hm : behindInMarks .In o = false := by rfl) : PDT X (.Compare i [.In] [o] pos) (cB (cBin dInD ci co)) := pt_imp (pt_cmp (pc_dIn hu hi ho) hm) fun σ H Q h => tD_cB h
theorem pdt_notIn (hu : X.A.units + 64 < cLine) (hi : PD X i ci) (ho : PD X o co) (hm : behindInMarks .NotIn o = false := by rfl) : PDT X (.Compare i [.NotIn] [o] pos) (cB (cBin dNotInD ci co)) := pt_imp (pt_cmp (pc_dNotIn hu hi ho) hm) fun σ H Q h => tD_cB h
end
end DL

/-! Dicts: stores, get, displays. -/
namespace DL
open PySem PySem.Spec PyProof.Rows L2

theorem putD_inv {S S' : Store} {x y v : D} (e : putD S x y v = some S') : ∃ k, x = .ref k ∧ ((∃ kvs q, S[k]? = some (.dK false kvs) ∧ keyK y = some q ∧ kvs.length < sizeLine ∧ S' = S.set k (.dK false (kPut kvs q v))) ∨
    (∃ kvs, S[k]? = some (.dN false kvs) ∧ okTup y = true ∧ kvs.length < sizeLine ∧ S' = S.set k (.dN false (dPut kvs y v)))) := by
  unfold putD at e
  split at e
  · rename_i k
    refine ⟨k, rfl, ?_⟩
    split at e
    · rename_i kvs ek
      split at e
      · rename_i q eq
        split at e
        · rename_i hl
          cases e
          exact .inl ⟨kvs, q, ek, eq, hl, rfl⟩
        · cases e
      · cases e
    · rename_i kvs ek
      split at e
      · rename_i hk
        cases e
        exact .inr ⟨kvs, ek, hk.1, hk.2, rfl⟩
      · cases e
    · cases e
  · cases e
theorem length_dPut (kvs : List (D × D)) (k v : D) : (dPut kvs k v).length ≤ kvs.length + 1 := by
  unfold dPut
  split <;> simp
theorem nobj_of {P : Program} {w : World} {h' : Heap} {a : Addr} {xs : List (NestedKey × Addr × Value)} (dd : h'.DictOfH (nestedKind P w) a xs) : ∃ ob, h'.get? a = some ob ∧ NObj P w ob xs := by
  obtain ⟨o, es, ep, h1, h2, h3, h4, _, h5⟩ := dd
  exact ⟨o, h1, h2, ⟨es, ep, h3, h4⟩, h5⟩
theorem ext_ok {P : Program} {w : World} {H : Hp} {h' : Heap} {a : Addr} {ob : Obj} (e : h'.get? a = some ob) : ObjOk P w H h' a (isO a ob) := ⟨e, ⟨ob, e⟩, fun _ _ q k => k _ q⟩
section
variable {X : Cx} {pins : List (Addr × Obj)} {σ : L2.St} {s : Shared} {B : Wd} {S S' : Store} {H : Hp}
/-- d[y] = v -/
theorem put_core (hu : X.A.units + 64 < cLine) (I : Inv X pins σ H s) (hs : RS X.prog X.w X.K B S H) {x y v : V} {dx dy d : D} {u iv r : Value} (rx : RV X.K B S H x dx) (ry : RV X.K B S H y dy) (rv : RV X.K B S H v d) (e : putD S dx dy d = some S') (qx : RelV x u) (qy : RelV y iv) (qv : RelV v r)
    {Q : Unit → Shared → Prop} (h : ∀ H' s', Inv X pins σ H' s' → Stp B S H B S' H' → RS X.prog X.w X.K B S' H' → Q () s') : wpAny (model X.prog X.w) X.A (setItem u iv r) Q X.xe s := by
  obtain ⟨k, rfl, g⟩ := putD_inv e
  cases rx with
  | ref lt =>
    cases qx
    rcases g with ⟨kvs, q, ek, e1, hl, rfl⟩ | ⟨kvs, ek, hk, hl, rfl⟩
    · obtain ⟨kxs, hr, hH⟩ := hs.cel k _ ek
      simp only [Bool.false_eq_true, if_false] at hH
      have g : DPut H (B k) y v (upd H (B k) (.dK (putK kxs q v))) := .inl ⟨kxs, q, hH, keyK_v ry e1, by rw [paired_len hr]; exact hl, rfl⟩
      have st : Stp B S H B (S.set k (.dK false (kPut kvs q d))) (upd H (B k) (.dK (putK kxs q v))) := Stp.set hs ek (by simp)
      refine d_setItem (by omega) I g qy qv fun s' I' => h _ s' I' st (hs.set ek (by simp) ⟨putK kxs q v, (krel_put q rv hr).mono st.toSt0, ?_⟩)
      simp only [Bool.false_eq_true, if_false]
      exact upd_same
    · obtain ⟨o, xs, h1, h2, h3, h4, h5⟩ := hs.cel k _ ek
      obtain ⟨b, e1, e2, h6⟩ := key_is I ry hk qy
      have dd := ndict_of I h1 h4 h5
      subst e1
      refine wpAny_setItem_heap (hsz := by rw [← paired_len h5]; exact h3) (room_in1 hu) h6 dd fun h' dd' hs' => ?_
      obtain ⟨ob, ho, hn⟩ := nobj_of dd'
      have st : Stp B S H B (S.set k (.dN false (dPut kvs dy d))) (upd H (B k) (isO (B k) ob)) := Stp.set hs ek (by simp)
      refine h _ _ (d_write I (by rw [h1]; exact True.intro) hs' ⟨ob, ho⟩ (ext_ok ho)) st (hs.set ek (by simp) ?_)
      refine ⟨ob, _, upd_same, h2, ?_, hn, (nrel_put rv qv hk (by rw [← e2]; exact ry) h5).mono st.toSt0⟩
      have := length_dPut kvs dy d
      omega
end
def sDPutC (o i v : DE) : DS := fun ρ S => match v ρ S with
  | some (d, S1) => (match o ρ S1 with
    | some (x, S2) => (match i ρ S2 with
      | some (y, S3) => (match putD S3 x y d with
        | some S4 => some (.nx ρ S4)
        | none => none)
      | none => none)
    | none => none)
  | none => none
def dGet2D : List D → Store → Option (D × Store) := fun xs S => match xs with
  | [x, y, z] => (match lookD S x y with
    | some (some d) => some (d, S)
    | some none => some (z, S)
    | none => none)
  | _ => none
theorem pds_dput {X : Cx} {o i e : Expr} {pos pos' : Pos} {co ci ce : DE} (hu : X.A.units + 64 < cLine) (ho : PD X o co) (hi : PD X i ci) (hv : PD X e ce) (hs : swapsWith e (some (.Subscript o i pos')) pos.line X.env = pure false := by rfl) :
    PDS X (.Assign [.Subscript o i pos'] e pos) (sDPutC co ci ce) := by
  refine ⟨fun pins s σ H E I h => ?_⟩
  obtain ⟨B, ρ, S, f, hs0, he, ef, k⟩ := h
  unfold sDPutC at ef
  split at ef
  · rename_i d S1 e1
    split at ef
    · rename_i x S2 e2
      split at ef
      · rename_i y S3 e3
        split at ef
        · rename_i S4 e4
          cases ef
          have q0 : tD X.prog X.w X.K ce σ H fun v H1 => tD X.prog X.w X.K co σ H1 fun xv H2 => tD X.prog X.w X.K ci σ H2 fun yv H3 => ∃ B3, Stp B S H B3 S3 H3 ∧ RS X.prog X.w X.K B3 S3 H3 ∧ RV X.K B3 S3 H3 v d ∧ RV X.K B3 S3 H3 xv x ∧ RV X.K B3 S3 H3 yv y :=
            ⟨B, ρ, S, d, S1, hs0, he, e1, fun B1 v1 H1 st1 hs1 r1 => ⟨B1, ρ, S1, x, S2, hs1, he.mono st1, e2, fun B2 v2 H2 st2 hs2 r2 => ⟨B2, ρ, S2, y, S3, hs2, he.mono (st1.trans st2), e3, fun B3 v3 H3 st3 hs3 r3 => ⟨B3, (st1.trans st2).trans st3, hs3, RV.mono (st2.trans st3) _ _ r1, RV.mono st3 _ _ r2, r3⟩⟩⟩⟩
          refine wpAny_Assign_Subscript (thn (hv.run pins s σ H _ I q0) fun r s1 ⟨v, H1, I1, rv, q1⟩ => thn (ho.run pins s1 σ H1 _ I1 q1) fun u s2 ⟨xv, H2, I2, rx, q2⟩ => thn (hi.run pins s2 σ H2 _ I2 q2) fun iv s3 ⟨yv, H3, I3, ry, q3⟩ => ?_) hs
          obtain ⟨B3, st, hs3, t1, t2, t3⟩ := q3
          exact put_core hu I3 hs3 t2 t3 t1 e4 rx ry rv fun H' s' I' st' hs' => ⟨σ, H', I', k B3 σ H' (st.trans st') hs' (he.mono (st.trans st'))⟩
        · cases ef
      · cases ef
    · cases ef
  · cases ef
theorem cCons_inv {a : DE} {r : DA} {ρ : Env'} {S S' : Store} {xs : List D} (h : cCons a r ρ S = some (xs, S')) : ∃ x S1 ys, a ρ S = some (x, S1) ∧ r ρ S1 = some (ys, S') ∧ xs = x :: ys := by
  unfold cCons at h
  split at h
  · rename_i x S1 e1
    split at h
    · rename_i ys S2 e2
      cases h
      exact ⟨x, S1, ys, e1, e2, rfl⟩
    · cases h
  · cases h
theorem cApp_inv {f : List D → Store → Option (D × Store)} {a : DA} {ρ : Env'} {S S' : Store} {d : D} (h : cApp f a ρ S = some (d, S')) : ∃ xs S1, a ρ S = some (xs, S1) ∧ f xs S1 = some (d, S') := by
  unfold cApp at h
  split at h
  · rename_i x S1 e1
    exact ⟨x, S1, e1, h⟩
  · cases h
theorem cUn_inv {f : D → Store → Option (D × Store)} {a : DE} {ρ : Env'} {S S' : Store} {d : D} (h : cUn f a ρ S = some (d, S')) : ∃ x S1, a ρ S = some (x, S1) ∧ f x S1 = some (d, S') := by
  unfold cUn at h
  split at h
  · rename_i x S1 e1
    exact ⟨x, S1, e1, h⟩
  · cases h
/-- it is a dict's cell -/
def isDictD : D → Store → Option (D × Store) := fun x S => match x with
  | .ref k => (match S[k]? with
    | some (.dK _ _) => some (x, S)
    | some (.dN _ _) => some (x, S)
    | _ => none)
  | _ => none
theorem isDict_inv {x d : D} {S S' : Store} (e1 : isDictD x S = some (d, S')) : ∃ j, x = .ref j ∧ d = x ∧ S' = S ∧ ((∃ lk kvs, S[j]? = some (.dK lk kvs)) ∨ ∃ lk kvs, S[j]? = some (.dN lk kvs)) := by
  unfold isDictD at e1
  split at e1
  · rename_i j
    split at e1
    · rename_i lk kvs ej
      cases e1
      exact ⟨j, rfl, rfl, rfl, .inl ⟨lk, kvs, ej⟩⟩
    · rename_i lk kvs ej
      cases e1
      exact ⟨j, rfl, rfl, rfl, .inr ⟨lk, kvs, ej⟩⟩
    · cases e1
  · cases e1
theorem pd_dget2 {X : Cx} {o e f : Expr} {apos cpos : Pos} {co ce cf : DE} (hu : X.A.units + 64 < cLine) (ho : PD X o co) (he : PD X e ce) (hf : PD X f cf) (m : M2 X o "get" apos e f cpos) :
    PD X (.Call (.Attribute o "get" apos) [e, f] [] cpos) (cApp dGet2D (cCons (cUn isDictD co) (cCons ce (cCons cf cNil)))) := by
  refine ⟨fun pins s σ H Q I h => ?_⟩
  obtain ⟨B, ρ, S, d, S', hs0, hr, ef, k⟩ := h
  obtain ⟨xs, S0, e0, ef⟩ := cApp_inv ef
  obtain ⟨x, S1, xs, e1, e2, rfl⟩ := cCons_inv e0
  obtain ⟨x', S1', e1, ed⟩ := cUn_inv e1
  obtain ⟨y, S3, xs, e3, e4, rfl⟩ := cCons_inv e2
  obtain ⟨z, S5, xs, e5, e6, rfl⟩ := cCons_inv e4
  cases e6
  obtain ⟨j, rfl, rfl, rfl, hd⟩ := isDict_inv ed
  unfold dGet2D at ef
  simp only at ef
  have q0 : tD X.prog X.w X.K co σ H fun xv H1 => ∃ B1, Stp B S H B1 S1 H1 ∧ RS X.prog X.w X.K B1 S1 H1 ∧ RV X.K B1 S1 H1 xv (.ref j) :=
    ⟨B, ρ, S, _, S1, hs0, hr, e1, fun B1 v1 H1 st1 hs1 r1 => ⟨B1, st1, hs1, r1⟩⟩
  refine wpAny_Call_method m.base m.few m.line PySem.F.plainAttrs_dict PySem.F.slot_dict_get PySem.F.type_dict_get (thn (ho.run pins s σ H _ I q0) fun u s1 ⟨xv, H1, I1, rx, B1, st1, hs1, r1⟩ => ?_)
  have hT : s1.TypeIs u "dict" ∧ ∀ b, u = .ref b → ∃ ob, s1.heap.get? b = some ob ∧ ob.dict = none := by
    cases r1 with
    | ref lt =>
      cases rx
      rcases hd with ⟨lk, kvs, ek⟩ | ⟨lk, kvs, ek⟩
      · obtain ⟨kxs, hr, hH⟩ := hs1.cel j _ ek
        have rd : Rd H1 (B1 j) (.dK kxs) := by
          cases lk with
          | true => simp only [if_true] at hH; exact .inr hH
          | false => simp only [Bool.false_eq_true, if_false] at hH; exact .inl hH
        obtain ⟨t1, t2, _⟩ := isD_at I1 (.inl ⟨kxs, rd⟩)
        exact ⟨t1, t2⟩
      · obtain ⟨o, xs, h1, h2, h3, h4, h5⟩ := hs1.cel j _ ek
        have dd := ndict_of I1 h1 h4 h5
        refine ⟨dd.typeIs, fun b q => ?_⟩
        cases q
        obtain ⟨ob, _, _, g1, g2, _⟩ := dd
        exact ⟨ob, g1, g2.2.1⟩
  refine ⟨hT.1, hT.2, ?_⟩
  rw [m.trees]
  have q1 : tD X.prog X.w X.K ce σ H1 fun yv H2 => tD X.prog X.w X.K cf σ H2 fun zv H3 => ∃ B3, Stp B1 S1 H1 B3 S0 H3 ∧ RS X.prog X.w X.K B3 S0 H3 ∧ RV X.K B3 S0 H3 yv y ∧ RV X.K B3 S0 H3 zv z :=
    ⟨B1, ρ, S1, y, S3, hs1, hr.mono st1, e3, fun B2 v2 H2 st2 hs2 r2 => ⟨B2, ρ, S3, z, S0, hs2, hr.mono (st1.trans st2), e5, fun B3 v3 H3 st3 hs3 r3 => ⟨B3, st2.trans st3, hs3, RV.mono st3 _ _ r2, r3⟩⟩⟩
  refine Calls.callWith_builtin rfl (Calls.evalArgs_plain (Calls.spliced_cons (thn (he.run pins s1 σ H1 _ I1 q1) fun iv s2 ⟨yv, H2, I2, ry, q2⟩ =>
    Calls.spliced_cons (thn (hf.run pins s2 σ H2 _ I2 q2) fun fv s3 ⟨zv, H3, I3, rz, B3, st3, hs3, ry3, rz3⟩ => Calls.spliced_nil ?_))))
  cases hl : lookD S0 (.ref j) y with
  | none => rw [hl] at ef; cases ef
  | some od =>
    rw [hl] at ef
    obtain ⟨a, rfl, rfl, hd3, ht, hn, g⟩ := look_cases I3 hs3 (RV.mono st3 _ _ r1) ry3 hl rx ry
    rcases g with ⟨ov, g, g2⟩ | ⟨b, q, xs, rfl, hk, dd, g2⟩
    · refine d_get2 (by omega) I3 g ry rz fun w' s4 I4 rw' => ⟨_, H3, I4, rw', ?_⟩
      cases od with
      | none =>
        rw [show ov = none from g2]
        cases ef
        exact k B3 _ H3 (st1.trans st3) hs3 rz3
      | some d' =>
        obtain ⟨v, rfl, rv⟩ := g2
        cases ef
        exact k B3 _ H3 (st1.trans st3) hs3 rv
    · refine call_meetsIn PySem.F.slot_dict_get dd.typeIs PySem.F.entry_dict_get (PySem.F.args_dict_get_3 _ _ _) (meetsH_dict_get_default (nestedKind X.prog X.w) a b hd3 fv) ⟨room_in1 hu, q, xs, hk, dd, ?_⟩
      cases od with
      | none =>
        rw [show atKey xs q = none from g2]
        cases ef
        exact ⟨_, H3, I3.tok _, rz, k B3 _ H3 (st1.trans st3) hs3 rz3⟩
      | some d' =>
        obtain ⟨p, v, ep, rel, rv⟩ := g2
        rw [ep]
        cases ef
        exact ⟨v, H3, I3.tok _, rel, k B3 _ H3 (st1.trans st3) hs3 rv⟩

/-! ### displays of one entry, empty displays -/
/-- p forgotten -/
abbrev offH (H : Hp) (p : Addr) : Hp := fun a => if a = p then none else H a
theorem offH_ne {H : Hp} {p a : Addr} (h : a ≠ p) : offH H p a = H a := by show (if a = p then none else H a) = H a; rw [if_neg h]
theorem offH_self {H : Hp} {p : Addr} : offH H p p = none := by show (if p = p then none else H p) = none; rw [if_pos rfl]
theorem offH_upd {H : Hp} {p : Addr} {u : HO} : upd (offH H p) p u = upd H p u := by
  funext a
  by_cases h : a = p
  · subst h; rw [upd_same, upd_same]
  · rw [upd_ne h, upd_ne h, offH_ne h]
section
variable {P : Program} {w : World} {K : PySem.W.Frag} {B : Wd} {S : Store} {H : Hp} {p : Addr} {u : HO}
/-- what stands at p is no list and no tuple -/
def odd (u : HO) : Prop := (∀ xs, u ≠ .tup xs) ∧ (∀ xs, u ≠ .lst xs) ∧ ∀ o xs, u ≠ .frz o (.lst xs)
mutual
theorem RV.off (h : H p = some u) (ou : odd u) : ∀ (d : D) (v : V), RV K B S H v d → RV K B S (offH H p) v d
  | .non, _, h => by cases h; exact .non
  | .bl b, _, h => by cases h; exact .bl b
  | .int i, _, h => by cases h; exact .int i
  | .str x, _, h => by cases h; exact .str x
  | .tup ds, _, r => by
    cases r with
    | tup e n r =>
      refine .tup (by rw [offH_ne]; exact e; rintro rfl; rw [h] at e; cases e; exact ou.1 _ rfl) n (RVs.off h ou ds _ r)
    | tupK e r => exact .tupK e (RVs.off h ou ds _ r)
  | .lst ds, _, r => by
    cases r with
    | lst e n r =>
      refine .lst (by rw [offH_ne]; exact e; rintro rfl; rw [h] at e; cases e; exact ou.2.1 _ rfl) n (RVs.off h ou ds _ r)
  | .scr ds, _, r => by
    cases r with
    | lstF e n r =>
      refine .lstF (by rw [offH_ne]; exact e; rintro rfl; rw [h] at e; cases e; exact ou.2.2 _ _ rfl) n (RVs.off h ou ds _ r)
    | lstK e r => exact .lstK e (RVs.off h ou ds _ r)
  | .ref k, _, r => by
    cases r with
    | ref lt => exact .ref lt
theorem RVs.off (h : H p = some u) (ou : odd u) : ∀ (ds : List D) (vs : List V), RVs K B S H vs ds → RVs K B S (offH H p) vs ds
  | [], _, r => by cases r; exact .nil
  | d :: ds, _, r => by
    cases r with
    | cons h1 h2 => exact .cons (RV.off h ou d _ h1) (RVs.off h ou ds _ h2)
end
theorem RS.off (r : RS P w K B S H) (h : H p = some u) (ou : odd u) (n : ¬ Owned B S p) : RS P w K B S (offH H p) := by
  refine ⟨r.inj, fun k c e => ?_, fun b hb => ?_, r.hdn⟩
  · have q := r.cel k c e
    cases c with
    | dead => trivial
    | lst ds =>
      obtain ⟨xs, h1, h2⟩ := q
      exact ⟨xs, by rw [offH_ne (fun z => n (.inr ⟨k, _, e, by simp, z⟩))]; exact h1, RVs.off h ou _ _ h2⟩
    | dK lk kvs =>
      obtain ⟨kxs, h2, h1⟩ := q
      rw [← offH_ne (H := H) (fun z => n (.inr ⟨k, _, e, by simp, z⟩))] at h1
      exact ⟨kxs, paired_map (fun _ _ z => ⟨z.1, RV.off h ou _ _ z.2⟩) h2, h1⟩
    | dN lk kvs =>
      obtain ⟨o, xs, h1, h2, h3, h4, h5⟩ := q
      rw [← offH_ne (H := H) (fun z => n (.inr ⟨k, _, e, by simp, z⟩))] at h1
      exact ⟨o, xs, h1, h2, h3, h4, paired_map (fun _ _ h => ⟨h.1, h.2.1, RV.off (by assumption) ou _ _ h.2.2.1, let ⟨v, e, q⟩ := h.2.2.2; ⟨v, e, RV.off (by assumption) ou _ _ q⟩⟩) h5⟩
  · rw [offH_ne (by rintro rfl; exact n (.inl hb))]
    exact r.hdt b hb
end
end DL

/-! Dict displays. -/
namespace DL
open PySem PySem.Spec PyProof.Rows L2

section
variable {P : Program} {w : World} {K : PySem.W.Frag} {B B2 : Wd} {S S2 : Store} {H H2 : Hp} {p : Addr} {u o' : HO} {c : Cell}
theorem disp_core (hs : RS P w K B S H) (n : H p = none) (ou : odd u) (st : Stp B S (upd H p u) B2 S2 H2) (hs2 : RS P w K B2 S2 H2) :
    H2 p = some u ∧ (∀ d v, RV K B2 S2 H2 v d → RV K B2 S2 (offH H2 p) v d) ∧ RS P w K B2 S2 (offH H2 p) ∧
    (CRl P w K (addB B2 S2.length p) (S2 ++ [c]) (upd H2 p o') p c → Stp B S H (addB B2 S2.length p) (S2 ++ [c]) (upd H2 p o') ∧ RS P w K (addB B2 S2.length p) (S2 ++ [c]) (upd H2 p o') ∧ RV K (addB B2 S2.length p) (S2 ++ [c]) (upd H2 p o') (.ref p) (.ref S2.length)) := by
  have n1 : ¬ Owned B S p := hs.fresh n
  have n2 : ¬ Owned B2 S2 p := fun z => n1 (st.own p u upd_same z)
  have hp : H2 p = some u := st.oth p u upd_same n1
  have ro := hs2.off hp ou n2
  refine ⟨hp, fun d v r => RV.off hp ou d v r, ro, fun q => ⟨⟨⟨Nat.le_trans st.len (by simp), fun k hk => (addB_lt (Nat.lt_of_lt_of_le hk st.len)).trans (st.agr k hk), fun a o ha na => ?_, fun a o ha w => ?_, fun k kvs h => ?_⟩, st.hde, fun a ha => ?_⟩, ?_, ?_⟩⟩
  · have hne := ne_of_none ha n
    rw [upd_ne hne]
    exact st.oth a o (by rw [upd_ne hne]; exact ha) na
  · have hne := ne_of_none ha n
    rcases owned_add w with z | z
    · exact absurd z hne
    · exact st.own a o (by rw [upd_ne hne]; exact ha) z
  · obtain ⟨_, hu⟩ := hs.there (.inr ⟨k, _, h, by simp, rfl⟩)
    have hne := ne_of_none hu n
    obtain ⟨h1, h2⟩ := st.lks k kvs h
    rw [upd_ne hne] at h2
    exact ⟨by rw [List.getElem?_append_left (List.getElem?_eq_some_iff.mp h1).1]; exact h1, by rw [upd_ne hne]; exact h2⟩
  · obtain ⟨uu, h⟩ := hs.hdt a ha
    have hne := ne_of_none h n
    rw [upd_ne hne, st.hdk a ha, upd_ne hne]
  · have := RS.add (o := o') (c := c) ro offH_self (by rw [offH_upd]; exact q)
    rw [offH_upd] at this
    exact this
  · have e : (V.ref p) = V.ref (addB B2 S2.length p S2.length) := by rw [addB_self]
    rw [e]
    exact .ref (by simp)
/-- the values that lie off p stay as they are when p becomes a cell -/
theorem disp_keep (ro : RS P w K B2 S2 (offH H2 p)) {d : D} {v : V} (r : RV K B2 S2 (offH H2 p) v d) : RV K (addB B2 S2.length p) (S2 ++ [c]) (upd H2 p o') v d := by
  have st := (Stp.add (o := o') (c := c) ro offH_self).toSt0
  have := RV.mono0 st d v r
  rw [offH_upd] at this
  exact this
end
/-- {k: v} -/
def cDisp (nst : Bool) (ck cv : DE) : DE := fun ρ S => match ck ρ S with
  | some (k, S1) => (match cv ρ S1 with
    | some (v, S2) => if nst = true then (if okTup k = true then some (.ref S2.length, S2 ++ [.dN false [(k, v)]]) else none)
      else (match keyK k with
        | some q => some (.ref S2.length, S2 ++ [.dK false [(q, v)]])
        | none => none)
    | none => none)
  | none => none
theorem pd_disp {X : Cx} {pos : Pos} {k v : Expr} {ck cv : DE} {nst : Bool} (hu : X.A.units + 64 < cLine) (hk : PD X k ck) (hv : PD X v cv) : PD X (.Dict [some k] [v] pos) (cDisp nst ck cv) := by
  cases nst with
  | false =>
    refine pe_imp (pe_disp (pps_cons hk hv pps_nil) rfl rfl (by simp) (by simp)) fun σ H Q ⟨B, ρ, S, d, S', hs, he, e, kk⟩ p hp => ?_
    unfold cDisp at e
    split at e
    · rename_i dk S1 e1
      split at e
      · rename_i dv S2 e2
        simp only [Bool.false_eq_true, if_false] at e
        split at e
        · rename_i q eq
          cases e
          refine ⟨B, ρ, S, dk, S1, hs.new hp, he.mono (Stp.new hs hp), e1, fun B1 v1 H1 st1 hs1 r1 => ⟨B1, ρ, S1, dv, S2, hs1, (he.mono (Stp.new hs hp)).mono st1, e2, fun B2 v2 H2 st2 hs2 r2 => ?_⟩⟩
          obtain ⟨h1, h2, h3, h4⟩ := disp_core (u := .dK []) (o' := .dK (mergeK [] [(q, v2)])) (c := .dK false [(q, dv)]) hs hp ⟨fun _ z => (nomatch z), fun _ z => (nomatch z), fun _ _ z => (nomatch z)⟩ (st1.trans st2) hs2
          refine ⟨h1, [(q, v2)], by rw [keyK_v (RV.mono st2 _ _ r1) eq]; rfl, by simp, ?_⟩
          obtain ⟨g1, g2, g3⟩ := h4 ⟨[(q, v2)], .cons ⟨rfl, disp_keep h3 (h2 _ _ r2)⟩ .nil, by simp only [Bool.false_eq_true, if_false]; exact upd_same⟩
          exact kk _ _ _ g1 g2 g3
        · cases e
      · cases e
    · cases e
  | true =>
    refine ⟨fun pins s σ H Q I hq => ?_⟩
    obtain ⟨B, ρ, S, d, S', hs, he, e, kk⟩ := hq
    unfold cDisp at e
    split at e
    · rename_i dk S1 e1
      split at e
      · rename_i dv S2 e2
        simp only [if_true] at e
        split at e
        · rename_i hok
          cases e
          have hn := I.hok.fresh (Nat.le_refl s.heap.objs.size)
          have I1 := I.laid (a := s.heap.objs.size) (o := isO s.heap.objs.size { cls := .type "dict", data := .dict #[] }) (h' := s.heap.push { cls := .type "dict", data := .dict #[] }) (t' := s.toks) (fun _ _ q => Heap.get?_push_of_some _ q) (Nat.le_refl _) (ext_ok (Heap.get?_push_size _ rfl))
          have q0 : tPairs [(tD X.prog X.w X.K ck, tD X.prog X.w X.K cv)] σ (upd H s.heap.objs.size (isO s.heap.objs.size { cls := .type "dict", data := .dict #[] })) fun ps H2 => ∃ v1 v2 B2, ps = [(v1, v2)] ∧ Stp B S (upd H s.heap.objs.size (isO s.heap.objs.size { cls := .type "dict", data := .dict #[] })) B2 S2 H2 ∧ RS X.prog X.w X.K B2 S2 H2 ∧ RV X.K B2 S2 H2 v1 dk ∧ RV X.K B2 S2 H2 v2 dv :=
            ⟨B, ρ, S, dk, S1, hs.new hn, he.mono (Stp.new hs hn), e1, fun B1 v1 H1 st1 hs1 r1 => ⟨B1, ρ, S1, dv, S2, hs1, (he.mono (Stp.new hs hn)).mono st1, e2, fun B2 v2 H2 st2 hs2 r2 => ⟨v1, v2, B2, rfl, st1.trans st2, hs2, RV.mono st2 _ _ r1, r2⟩⟩⟩
          have hpp : PPs X pos [some k] [v] [(tD X.prog X.w X.K ck, tD X.prog X.w X.K cv)] := pps_cons hk hv pps_nil
          rw [arm_eval_Dict, zip_pairTrees [some k] [v] X.env pos rfl rfl, dictDisplay_pairs (pairTrees [some k] [v] X.env pos) (by simp [pairTrees]) (by simp [pairTrees])]
          refine wpAny_bind (wpAny_standAt (wpAny_bind (wpAny_subDictH (knd := nestedKind X.prog X.w) (Q := fun d s' => wpAny (model X.prog X.w) X.A (pure (Value.ref d)) (EP X pins σ Q) X.xe s') (show X.A.units + 8 < cLine by omega) (by simp [pairTrees]) (thn (hpp.run pins _ σ _ _ I1 q0) fun ws s2 ⟨ps, H2, I2, rel, v1, v2, B2, ep, st, hs2, r1, r2⟩ => ?_))))
          subst ep
          cases rel with
          | @cons a b as bs hh t =>
            cases t
            obtain ⟨u1, u2⟩ := b
            obtain ⟨b1, e3, e4, e5⟩ := key_is I2 r1 hok hh.1
            have e3 : u1 = .ref b1 := e3
            subst e3
            obtain ⟨h1, h2, h3, h4⟩ := disp_core (u := isO s.heap.objs.size { cls := .type "dict", data := .dict #[] }) (c := .dN false [(dk, dv)]) (o' := .dK []) hs hn ⟨fun _ z => (nomatch z), fun _ z => (nomatch z), fun _ _ z => (nomatch z)⟩ st hs2
            have hg : s2.heap.get? s.heap.objs.size = some { cls := .type "dict", data := .dict #[] } := (show ObjOk X.prog X.w H2 s2.heap _ (isO _ _) from I2.hok _ _ h1).1
            refine ⟨[(keyD dk, b1, u2)], ⟨rfl, rfl, e5, trivial⟩, ⟨_, #[], 0, hg, ⟨rfl, rfl, rfl⟩, rfl, rfl, fun _ hx => by simp at hx, List.nodup_nil⟩, fun h' tk dd' hsb => wpAny_pure ?_⟩
            obtain ⟨ob, ho, hno⟩ := nobj_of dd'
            obtain ⟨_, _, _, h4⟩ := disp_core (u := isO s.heap.objs.size { cls := .type "dict", data := .dict #[] }) (c := .dN false [(dk, dv)]) (o' := isO s.heap.objs.size ob) hs hn ⟨fun _ z => (nomatch z), fun _ z => (nomatch z), fun _ _ z => (nomatch z)⟩ st hs2
            have hz : (s.heap.objs.size == sysModules) = false := beq_eq_false_iff_ne.mpr (Ne.symm (Nat.ne_of_lt I.big))
            obtain ⟨g1, g2, g3⟩ := h4 ⟨ob, [(keyD dk, b1, u2)], upd_same, hz, by rw [sizeLine_eq]; simp, hno, .cons ⟨hok, rfl, disp_keep h3 (h2 _ _ (by rw [← show v1 = V.ref b1 from e4]; exact r1)), v2, hh.2, disp_keep h3 (h2 _ _ r2)⟩ .nil⟩
            exact ⟨.ref s.heap.objs.size, _, d_write I2 (by rw [h1]; exact True.intro) hsb ⟨ob, ho⟩ (ext_ok ho), rfl, kk _ _ _ g1 g2 g3⟩
        · cases e
      · cases e
    · cases e
/-- {} -/
def cDNew (nst : Bool) : DE := fun _ S => some (.ref S.length, S ++ [if nst = true then .dN false [] else .dK false []])
theorem pd_dnew {X : Cx} {pos : Pos} {nst : Bool} : PD X (.Dict [] [] pos) (cDNew nst) := by
  cases nst with
  | false =>
    refine pe_imp pe_dnewK fun σ H Q ⟨B, ρ, S, d, S', hs, he, e, kk⟩ p hp => ?_
    cases e
    have st : Stp B S H (addB B S.length p) (S ++ [.dK false []]) (upd H p (.dK [])) := Stp.add hs hp
    refine kk _ _ _ st (hs.add hp ⟨[], .nil, by simp only [Bool.false_eq_true, if_false]; exact upd_same⟩) ?_
    have e : (V.ref p) = V.ref (addB B S.length p S.length) := by rw [addB_self]
    rw [e]
    exact .ref (by simp)
  | true =>
    refine ⟨fun pins s σ H Q I hq => ?_⟩
    obtain ⟨B, ρ, S, d, S', hs, he, e, kk⟩ := hq
    cases e
    have hn := I.hok.fresh (Nat.le_refl s.heap.objs.size)
    have I1 := I.laid (a := s.heap.objs.size) (o := isO s.heap.objs.size { cls := .type "dict", data := .dict #[] }) (h' := s.heap.push { cls := .type "dict", data := .dict #[] }) (t' := s.toks) (fun _ _ q => Heap.get?_push_of_some _ q) (Nat.le_refl _) (ext_ok (Heap.get?_push_size _ rfl))
    have hz : (s.heap.objs.size == sysModules) = false := beq_eq_false_iff_ne.mpr (Ne.symm (Nat.ne_of_lt I.big))
    refine wpAny_Dict_empty ⟨.ref s.heap.objs.size, _, I1, rfl, kk _ _ _ (Stp.add hs hn) (hs.add hn ⟨_, [], upd_same, hz, Nat.zero_le _, ⟨⟨rfl, rfl, rfl⟩, ⟨#[], 0, rfl, rfl⟩, List.nodup_nil⟩, .nil⟩) ?_⟩
    have e : (V.ref s.heap.objs.size) = V.ref (addB B S.length s.heap.objs.size S.length) := by rw [addB_self]
    rw [e]
    exact .ref (by simp)
end DL

/-! What the printed texts use. -/
namespace DL
open PySem PySem.Spec PyProof.Rows L2

def FdAt (K : PySem.W.Frag) (f : Addr) (fd : FuncData) : Prop := ∃ oc od osl, K.lookup f = some ⟨oc, od, .func fd, osl⟩
theorem fdAt_of {K : PySem.W.Frag} {x qual : Str} {params : Arguments} {body : List Stmt} {scope : Scope} {dvs : List V} {kws : List (Str × V)} {f : Addr} {fd : FuncData} (F : FunD K x qual params body scope dvs kws f fd) : FdAt K f fd := by
  obtain ⟨oc, od, _, _, _, _, _, _, _, osl, _, h, _⟩ := F.ex
  exact ⟨oc, od, osl, h⟩
theorem FdAt.eq {K : PySem.W.Frag} {f : Addr} {fd fd' : FuncData} (a : FdAt K f fd) (b : FdAt K f fd') : fd = fd' := by
  obtain ⟨_, _, _, a⟩ := a
  obtain ⟨_, _, _, b⟩ := b
  rw [a] at b
  cases b
  rfl
/-- a def by its name -/
def DefOk (P : Program) (w : World) (K : PySem.W.Frag) (mg : Str → Option Value) (base : Heap) (x : Str) (k : Nat) (ps : List Str) (F : DF) : Prop :=
  ∃ f fd, FnOk P w K mg base CX0 k f fd ps (spD P w K ps.length F) ∧ mg x = some (.ref f) ∧ PySem.W.keepIn K (.ref f) = true ∧ Binds K fd ps [] ∧ FdAt K f fd
/-- its function object, by its row -/
def DefAt (K : PySem.W.Frag) (mg : Str → Option Value) (x : Str) (st : Stmt) : Prop := ∃ f fd, FunD K x x (defArgs st) (defBody st) (defScope st) [] [] f fd ∧ mg x = some (.ref f)
abbrev nD (n : Nat) (F : DF) : DF := fun ds S => if ds.length = n then F ds S else none
theorem pd_callD {X : Cx} {k n : Nat} {ps : List Str} {F : DF} {x : Str} {p pos : Pos} {e : Expr} {es : List Expr} {cs : DA} (hr : Room k X.A) (D : DefOk X.prog X.w X.K X.mg X.base x k ps F) (ha : PDA X (e :: es) cs) (hn : ps.length = n := by rfl) (hg : Gl X x := by rfl)
    (hl : (e :: es).length = ps.length := by rfl) (hdb : (x == ("__debug__" : Str)) = false := by decide) (he : starEach (e :: es) X.env = (false, eval e X.env) :: starEach es X.env := by rfl) (hpl : (backTo pos (starEach es X.env)).any (·.1) = false := by rfl) :
    PD X (.Call (.Name x p) (e :: es) [] pos) (cApp (nD n F) cs) := by
  subst hn
  obtain ⟨f, fd, h1, h2, h3, h4, _⟩ := D
  exact pd_call h1 hr hg h2 h3 h4 hl ha hdb he hpl
def ipD (f : Int → Int → Int) : D → D → Store → Option (D × Store) := fun x y S => match x, y with
  | .int a, .int b => some (.int (f a b), S)
  | _, _ => none
theorem ok_ip {P : Program} {w : World} {K : PySem.W.Frag} {f : Int → Int → Int} : Ok2 P w K (ipI f) (ipD f) := by
  intro B S H x y dx dy d S' Q hs rx ry e k
  unfold ipD at e
  split at e
  · cases e; exact ⟨_, _, rx.intI, ry.intI, k B _ H (Stp.refl ..) hs (.int _)⟩
  · cases e
abbrev iaddD := ipD fun i j => i + j
abbrev isubD := ipD fun i j => i - j
theorem par_of {X : Cx} {e : Expr} {t : DT} (h : PDW X e t) : PDT X e t := PW.pt h
section
variable {X : Cx} {i : Nat} {x : Str} {e : Expr} {ce : DE} {pos pos' : Pos}
theorem pds_iadd (hN : X.N.Nodup) (hi : X.N[i]? = some x) (hx : Loc X.env.scope x) (he : PD X e ce) (hf : X.fn x = true ∨ X.env.scope.names.lookup x = some .local := by first | exact .inl rfl | exact .inr rfl | assumption) : PDS X (.AugAssign (.Name x pos') .Add e pos) (sAug i iaddD ce) :=
  pds_aug ip_add ok_ip fun h => ps_aug hN hi hx he h hf
theorem pds_isub (hN : X.N.Nodup) (hi : X.N[i]? = some x) (hx : Loc X.env.scope x) (he : PD X e ce) (hf : X.fn x = true ∨ X.env.scope.names.lookup x = some .local := by first | exact .inl rfl | exact .inr rfl | assumption) : PDS X (.AugAssign (.Name x pos') .Sub e pos) (sAug i isubD ce) :=
  pds_aug ip_sub ok_ip fun h => ps_aug hN hi hx he h hf
theorem pds_iaddIx {o i e : Expr} {co ci ce : DE} {pos tpos : Pos} (ho : PD X o co) (hi : PD X i ci) (he : PD X e ce)
    (ha : ∀ ov iv new, augStore i ov iv new = (do holding [new, ov, iv] (setItem ov iv new); release [new, ov, iv] []; pure .next) := by intros; rfl) : PDS X (.AugAssign (.Subscript o i tpos) .Add e pos) (sAugIx iaddD co ci ce) := pds_augIx ip_add ok_ip ho hi he ha
theorem pds_isubIx {o i e : Expr} {co ci ce : DE} {pos tpos : Pos} (ho : PD X o co) (hi : PD X i ci) (he : PD X e ce)
    (ha : ∀ ov iv new, augStore i ov iv new = (do holding [new, ov, iv] (setItem ov iv new); release [new, ov, iv] []; pure .next) := by intros; rfl) : PDS X (.AugAssign (.Subscript o i tpos) .Sub e pos) (sAugIx isubD co ci ce) := pds_augIx ip_sub ok_ip ho hi he ha
end

/-! ### the truth of a value -/
def truD (S : Store) : D → Option Bool
  | .non => some false
  | .bl b => some b
  | .int i => some (i != 0)
  | .tup xs => some (!xs.isEmpty)
  | .str y => if y.length ≤ sizeLine then some ((y.length : Int) != 0) else none
  | x => (asQ S x).map fun xs => !xs.isEmpty
def cTr (a : DE) : DT := fun ρ S => match a ρ S with
  | some (x, S1) => (truD S1 x).map fun b => (b, S1)
  | none => none
theorem isEmpty_len {α β : Type} {a : List α} {b : List β} (h : a.length = b.length) : a.isEmpty = b.isEmpty := by
  cases a <;> cases b <;> first | rfl | (simp at h)
theorem truD_ok {P : Program} {w : World} {K : PySem.W.Frag} {B : Wd} {S : Store} {H : Hp} {v : V} {d : D} {b : Bool} (hs : RS P w K B S H) (r : RV K B S H v d) (e : truD S d = some b) : TruV K v H b := by
  unfold truD at e
  split at e
  · cases e; cases r; exact rfl
  · cases e; cases r; exact rfl
  · cases e; cases r; exact rfl
  · cases e
    obtain ⟨a, us, rfl, ha, qa⟩ := r.tupI
    exact .inr (.inl ⟨us, ha, by rw [isEmpty_len qa.length]⟩)
  · split at e
    · rename_i hl
      cases e; cases r; exact ⟨hl, rfl⟩
    · cases e
  · obtain ⟨xs, e1, e2⟩ := Option.map_eq_some_iff.mp e
    subst e2
    obtain ⟨a, us, rfl, ha, qa⟩ := asQ_ok hs r e1
    exact .inl ⟨us, ha, by rw [isEmpty_len qa.length]⟩
section
variable {X : Cx} {a b c : Expr} {ca cb cc : DE} {pos : Pos}
theorem pdt_tr (h : PD X a ca) (he : ∀ whole, isTrue a X.env whole = (do let v ← whole; standAt a.pos; holding [v] (truthy v)) := by intro _; rfl) : PDT X a (cTr ca) :=
  pt_imp (pt_truth h he) fun σ H Q ⟨B, ρ, S, d, S', hs, hr, e, k⟩ => by
    unfold cTr at e
    split at e
    · rename_i x S1 e1
      obtain ⟨t, e2, e3⟩ := Option.map_eq_some_iff.mp e
      cases e3
      exact ⟨B, ρ, S, x, _, hs, hr, e1, fun B' v H' st hs' r => ⟨_, truD_ok hs' r e2, k B' H' st hs'⟩⟩
    · cases e
theorem pdt_chain {op op' : CmpOp} {r r' : R2} {f g : D → D → Store → Option (D × Store)} (ho : OpR X (compareOp op) r) (ho' : OpR X (compareOp op') r') (hf : Ok2 X.prog X.w X.K r f) (hg : Ok2 X.prog X.w X.K r' g) (ha : PD X a ca) (hb : PD X b cb) (hc : PD X c cc)
    (hm : lastMarks [op, op'] [b, c] = false := by with_unfolding_all rfl) : PDT X (.Compare a [op, op'] [b, c] pos) (cB (cChain f g ca cb cc)) := by
  refine pt_imp (pt_chain ho ho' ha hb hc hm) fun σ H Q h => ?_
  obtain ⟨B, ρ, S, d, S', hs, he, e, k⟩ := tD_cB h
  unfold cChain at e
  split at e
  · rename_i x S1 e1
    split at e
    · rename_i y S2 e2
      refine ⟨B, ρ, S, x, S1, hs, he, e1, fun B1 v1 H1 st1 hs1 r1 => ⟨B1, ρ, S1, y, S2, hs1, he.mono st1, e2, fun B2 v2 H2 st2 hs2 r2 => ?_⟩⟩
      split at e
      · rename_i S3 e3
        refine hf B2 S2 H2 v1 v2 x y _ S3 _ hs2 (RV.mono st2 _ _ r1) r2 e3 fun B3 v3 H3 st3 hs3 r3 => ?_
        cases r3
        refine ⟨_, rfl, iteT ?_⟩
        split at e
        · rename_i z S4 e4
          refine ⟨B3, ρ, S3, z, S4, hs3, he.mono ((st1.trans st2).trans st3), e4, fun B4 v4 H4 st4 hs4 r4 => ?_⟩
          exact hg B4 S4 H4 v2 v4 y z d S' _ hs4 (RV.mono (st3.trans st4) _ _ r2) r4 e fun B5 v5 H5 st5 hs5 r5 => k B5 v5 H5 ((((st1.trans st2).trans st3).trans st4).trans st5) hs5 r5
        · cases e
      · rename_i S3 e3
        cases e
        refine hf B2 S2 H2 v1 v2 x y _ _ _ hs2 (RV.mono st2 _ _ r1) r2 e3 fun B3 v3 H3 st3 hs3 r3 => ?_
        cases r3
        exact ⟨_, rfl, iteF (k B3 _ H3 ((st1.trans st2).trans st3) hs3 (.bl _))⟩
      · cases e
    · cases e
  · cases e
theorem pd_globE {x : Str} {i : Int} (hg : Gl X x) (h : ∃ u, X.mg x = some u ∧ RelV (.int i) u) (hd : (x == ("__debug__" : Str)) = false := by decide) : PD X (.Name x pos) (cC (.int i)) := by
  obtain ⟨u, h1, h2⟩ := h
  exact pd_glob hg h1 h2 hd
end
theorem DefOk.mono {P : Program} {w : World} {K : PySem.W.Frag} {mg : Str → Option Value} {base : Heap} {x : Str} {j k : Nat} {ps : List Str} {F : DF} (d : DefOk P w K mg base x j ps F) (h : j ≤ k) : DefOk P w K mg base x k ps F := by
  obtain ⟨f, fd, h1, h2, h3, h4⟩ := d
  exact ⟨f, fd, h1.mono h, h2, h3, h4⟩

/-- the script, before the law -/
theorem law_start {P : Program} {w : World} {K : PySem.W.Frag} {F : DF} (hF : ∀ ns : List Int, ns.length ≤ 63 → ∃ S', F [.scr (ns.map D.int)] [] = some (.bl true, S')) (H : Hp) (a : Addr) (ns : List Int) (hl : ns.length ≤ 63) (hO : Only H) (hS : SqL K H a (ns.map V.int)) :
    spD P w K 1 F [.ref a] H (fun v _ => v = .bl true) fun _ _ _ => False := by
  obtain ⟨S', e⟩ := hF ns hl
  refine ⟨rfl, ⟨fun _ => 0, []⟩, [], [.scr (ns.map D.int)], .bl true, S', ⟨fun i j ci cj h => ?_, fun k c h => ?_, fun a h => ?_, fun a k c h => ?_⟩, .cons ?_ .nil, e, fun B' v H' _ _ r => ?_⟩
  · simp at h
  · simp at h
  · cases h
  · cases h
  · have ri : ∀ (B : Wd) (S : Store) (H : Hp) (ns : List Int), RVs K B S H (ns.map V.int) (ns.map D.int) := fun B S H ns => by
      induction ns with
      | nil => exact .nil
      | cons x xs ih => exact .cons (.int x) ih
    have nO : ¬ Owned (⟨fun _ => 0, []⟩ : Wd) ([] : Store) a := by
      rintro (h | ⟨k, c, h, _⟩)
      · cases h
      · simp at h
    rcases hS with (h | ⟨o, h⟩) | h
    · rcases hO a with q | ⟨o, xs, q⟩
      · rw [h] at q; cases q
      · rw [h] at q; cases q
    · exact .lstF h nO (ri _ _ _ _)
    · exact .lstK (fun _ => .inr h) (ri _ _ _ _)
  · cases r; rfl
end DL

/-! Tools for the plain half: what the combinators give. -/
namespace DL
open PySem PySem.Spec PyProof.Rows L2

mutual
theorem below_mono {n m : Nat} (h : n ≤ m) : ∀ d : D, below n d = true → below m d = true
  | .ref k, e => by
    simp only [below, decide_eq_true_eq] at e ⊢
    omega
  | .tup ds, e => by simp only [below] at e ⊢; exact belows_mono h ds e
  | .lst ds, e => by simp only [below] at e ⊢; exact belows_mono h ds e
  | .scr ds, e => by simp only [below] at e ⊢; exact belows_mono h ds e
  | .non, _ => rfl
  | .bl _, _ => rfl
  | .int _, _ => rfl
  | .str _, _ => rfl
theorem belows_mono {n m : Nat} (h : n ≤ m) : ∀ ds : List D, belows n ds = true → belows m ds = true
  | [], _ => rfl
  | d :: ds, e => by
    simp only [belows, Bool.and_eq_true] at e ⊢
    exact ⟨below_mono h d e.1, belows_mono h ds e.2⟩
end
theorem belows_all {n : Nat} : ∀ {ds : List D}, belows n ds = true ↔ ∀ d ∈ ds, below n d = true
  | [] => by simp [belows]
  | d :: ds => by simp [belows, belows_all (ds := ds)]
theorem belows_map {α : Type} {n : Nat} {f : α → D} {l : List α} (h : ∀ x ∈ l, below n (f x) = true) : belows n (l.map f) = true := belows_all.mpr fun d hd => by
  obtain ⟨x, hx, rfl⟩ := List.mem_map.mp hd
  exact h x hx
/-- leaving a def: what it made is dropped, its caller's cells may have changed -/
theorem leave_upd {S S' T : Store} {d : D} (hl : S'.length = S.length) (hc : ∀ k : Nat, k < S.length → S'[k]? = S[k]? ∨ ∃ c, S'[k]? = some c ∧ cellBelow S.length c) (hd : below S.length d = true) : leave S (some (.rt d (S' ++ T))) = some (d, S') := by
  show leaveV S (S' ++ T) d = _
  unfold leaveV
  rw [if_pos, if_pos hd, List.take_left' hl]
  intro k hk
  rw [List.getElem?_append_left (by omega)]
  exact hc k hk
theorem leave_rt {S T : Store} {d : D} (h : below 0 d = true) : leave S (some (.rt d (S ++ T))) = some (d, S) := leave_upd rfl (fun _ _ => .inl rfl) (below_mono (Nat.zero_le _) d h)
theorem leave_rt0 {S : Store} {d : D} (h : below 0 d = true) : leave S (some (.rt d S)) = some (d, S) := by
  have := leave_rt (S := S) (T := []) h
  rwa [List.append_nil] at this
theorem call_rt {n : Nat} {c : DS} {ds : List D} {S T : Store} {d : D} (e : c (ds.map some ++ List.replicate (n - ds.length) none) S = some (.rt d (S ++ T))) (h : below 0 d = true) : callF n c ds S = some (d, S) := by
  unfold callF
  rw [e]
  exact leave_rt h
theorem call_rt0 {n : Nat} {c : DS} {ds : List D} {S : Store} {d : D} (e : c (ds.map some ++ List.replicate (n - ds.length) none) S = some (.rt d S)) (h : below 0 d = true) : callF n c ds S = some (d, S) := by
  unfold callF
  rw [e]
  exact leave_rt0 h

/-! ### comprehensions over plain items -/
section
variable {α : Type} {g : DG} {t : DT} {e : DE} {ρ : Env'} {S : Store}
theorem lcGo_fm (en : α → D) (p : α → Bool) (h : α → D) {xs : List D} : ∀ (l : List α) (acc : List D), (∀ x ∈ l, ∃ ρ1, g (en x) ρ = some ρ1 ∧ t ρ1 S = some (p x, S) ∧ (p x = true → e ρ1 S = some (h x, S))) →
    lcGo (lt1 g t e ρ) none xs (l.map en) acc S = some (acc ++ (l.filter p).map h, S)
  | [], acc, _ => by simp [lcGo, liveOk]
  | x :: l, acc, hh => by
    obtain ⟨ρ1, h1, h2, h3⟩ := hh x (by simp)
    have ih := lcGo_fm en p h (xs := xs) l
    simp only [List.map_cons, lcGo, liveOk, if_true, lt1, h1, h2]
    cases hp : p x with
    | false =>
      simp only [hp]
      rw [ih acc fun y hy => hh y (by simp [hy])]
      simp [List.filter_cons, hp]
    | true =>
      simp only [hp, h3 hp]
      rw [ih _ fun y hy => hh y (by simp [hy])]
      simp [List.filter_cons, hp]
theorem cLC_fm {vs : List Nat} {ci : DI} {xs : List D} {l : List α} (en : α → D) (p : α → Bool) (h : α → D) (hi : ci ρ S = some ((xs, none), S)) (hx : xs = l.map en) (hz : l.length ≤ sizeLine)
    (hh : ∀ x ∈ l, ∃ ρ1, g (en x) (wipeD ρ vs) = some ρ1 ∧ t ρ1 S = some (p x, S) ∧ (p x = true → e ρ1 S = some (h x, S))) : cLC vs false ci (lt1 g t e) ρ S = some (.lst ((l.filter p).map h), S) := by
  unfold cLC
  rw [hi]
  simp only
  subst hx
  rw [lcGo_fm en p h l [] hh]
  simp only [List.nil_append, mkL]
  rw [if_pos, if_neg (by decide)]
  rw [List.length_map]
  exact Nat.le_trans (List.length_filter_le _ _) hz
theorem cLC_map {vs : List Nat} {ci : DI} {xs : List D} {l : List α} (en : α → D) (h : α → D) (hi : ci ρ S = some ((xs, none), S)) (hx : xs = l.map en) (hz : l.length ≤ sizeLine)
    (hh : ∀ x ∈ l, ∃ ρ1, g (en x) (wipeD ρ vs) = some ρ1 ∧ e ρ1 S = some (h x, S)) : cLC vs false ci (lt1 g tYesD e) ρ S = some (.lst (l.map h), S) := by
  rw [cLC_fm en (fun _ => true) h hi hx hz fun x hx => let ⟨ρ1, h1, h2⟩ := hh x hx; ⟨ρ1, h1, rfl, fun _ => h2⟩]
  rw [List.filter_eq_self.mpr fun _ _ => rfl]
/-- the same, into a new cell -/
theorem cLC_fmB {vs : List Nat} {ci : DI} {xs : List D} {l : List α} (en : α → D) (p : α → Bool) (h : α → D) (hi : ci ρ S = some ((xs, none), S)) (hx : xs = l.map en) (hz : l.length ≤ sizeLine)
    (hh : ∀ x ∈ l, ∃ ρ1, g (en x) (wipeD ρ vs) = some ρ1 ∧ t ρ1 S = some (p x, S) ∧ (p x = true → e ρ1 S = some (h x, S))) : cLC vs true ci (lt1 g t e) ρ S = some (.ref S.length, S ++ [.lst ((l.filter p).map h)]) := by
  unfold cLC
  rw [hi]
  simp only
  subst hx
  rw [lcGo_fm en p h l [] hh]
  simp only [List.nil_append, mkL]
  rw [if_pos, if_pos trivial]
  rw [List.length_map]
  exact Nat.le_trans (List.length_filter_le _ _) hz
end
theorem asInts_map {α : Type} (f : α → Int) : ∀ l : List α, asInts (l.map fun x => .int (f x)) = some (l.map f)
  | [] => rfl
  | x :: l => by
    show (asInts (l.map fun x => .int (f x))).map (f x :: ·) = _
    rw [asInts_map f l]; rfl
theorem asBls_map {α : Type} (f : α → Bool) : ∀ l : List α, asBls (l.map fun x => .bl (f x)) = some (l.map f)
  | [] => rfl
  | x :: l => by
    show (asBls (l.map fun x => .bl (f x))).map (f x :: ·) = _
    rw [asBls_map f l]; rfl

/-! ### loops -/
section
variable {α : Type} {g : DG} {b : DS} {xs : List D}
theorem forL_ex (en : α → D) (I : List α → Env' → Store → Prop) (Post : Fl → Prop)
    (step : ∀ y ys ρ S, I (y :: ys) ρ S → ∃ ρ1, g (en y) ρ = some ρ1 ∧ ∃ f, b ρ1 S = some f ∧ (match f with
      | .nx ρ' S' => I ys ρ' S'
      | .ct ρ' S' => I ys ρ' S'
      | .bk ρ' S' => Post (.nx ρ' S')
      | .rt d S' => Post (.rt d S'))) (done : ∀ ρ S, I [] ρ S → Post (.nx ρ S)) :
    ∀ (l : List α) ρ S, I l ρ S → ∃ f, forL g b none xs (l.map en) ρ S = some f ∧ Post f
  | [], ρ, S, h => ⟨_, by simp [forL, liveOk], done ρ S h⟩
  | y :: l, ρ, S, h => by
    obtain ⟨ρ1, h1, f, h2, h3⟩ := step y l ρ S h
    simp only [List.map_cons, forL, liveOk, if_true, h1, h2]
    cases f with
    | nx ρ' S' => exact forL_ex en I Post step done l ρ' S' h3
    | ct ρ' S' => exact forL_ex en I Post step done l ρ' S' h3
    | bk ρ' S' => exact ⟨_, rfl, h3⟩
    | rt d S' => exact ⟨_, rfl, h3⟩
/-- no early way out -/
theorem forL_inv (en : α → D) (I : List α → Env' → Store → Prop)
    (step : ∀ y ys ρ S, I (y :: ys) ρ S → ∃ ρ1, g (en y) ρ = some ρ1 ∧ ∃ ρ' S', b ρ1 S = some (.nx ρ' S') ∧ I ys ρ' S') :
    ∀ (l : List α) ρ S, I l ρ S → ∃ ρ' S', forL g b none xs (l.map en) ρ S = some (.nx ρ' S') ∧ I [] ρ' S' := fun l ρ S h => by
  obtain ⟨f, h1, h2⟩ := forL_ex (g := g) (b := b) (xs := xs) en I (fun f => match f with | .nx ρ' S' => I [] ρ' S' | _ => False)
    (fun y ys ρ S h => let ⟨ρ1, e1, ρ', S', e2, q⟩ := step y ys ρ S h; ⟨ρ1, e1, _, e2, q⟩) (fun ρ S h => h) l ρ S h
  cases f with
  | nx ρ' S' => exact ⟨ρ', S', h1, h2⟩
  | _ => exact h2.elim
end
theorem rng_map (n : Nat) : (itRange 0 n).1 = (List.range n).map fun i => D.int (i : Nat) := by
  simp [itRange]
theorem atI_end {α : Type} {l : List α} {x : α} : L2.atI (l ++ [x]) (-1) = some x := by
  unfold L2.atI L2.ixN
  rw [if_neg (by omega), if_pos (by simp; omega)]
  have e : ((-1 : Int) + ((l.length : Int) + 1)).toNat = l.length := by omega
  simp [e]

/-! ### statements, by what is wanted behind them -/
def Ev (c : DS) (ρ : Env') (S : Store) (Post : Fl → Prop) : Prop := ∃ f, c ρ S = some f ∧ Post f
/-- behind the first of two -/
def thenEv (b : DS) (Post : Fl → Prop) : Fl → Prop
  | .nx ρ' S' => Ev b ρ' S' Post
  | f => Post f
/-- behind a turn -/
def turnEv (I : Env' → Store → Prop) (Post : Fl → Prop) : Fl → Prop
  | .nx ρ' S' => I ρ' S'
  | .ct ρ' S' => I ρ' S'
  | .bk ρ' S' => Post (.nx ρ' S')
  | .rt d S' => Post (.rt d S')
section
variable {a b : DS} {ρ ρ' : Env'} {S S' : Store} {Post : Fl → Prop} {ce : DE} {ct : DT} {g : DG} {d : D} {ci : DI}
theorem Ev.seq (h : Ev a ρ S (thenEv b Post)) : Ev (sSeq a b) ρ S Post := by
  obtain ⟨f, e, q⟩ := h
  cases f with
  | nx ρ' S' =>
    obtain ⟨f', e', q'⟩ := q
    exact ⟨f', by simp only [sSeq, e, e'], q'⟩
  | rt d S' => exact ⟨_, by simp only [sSeq, e], q⟩
  | bk d S' => exact ⟨_, by simp only [sSeq, e], q⟩
  | ct d S' => exact ⟨_, by simp only [sSeq, e], q⟩
theorem Ev.next (h : Post (.nx ρ S)) : Ev sNext ρ S Post := ⟨_, rfl, h⟩
theorem Ev.set (h : ce ρ S = some (d, S')) (hg : g d ρ = some ρ') (q : Post (.nx ρ' S')) : Ev (sSet g ce) ρ S Post := ⟨_, by simp only [sSet, h, hg], q⟩
theorem Ev.setN {i : Nat} (h : ce ρ S = some (d, S')) (q : Post (.nx (ρ.set i (some d)) S')) : Ev (sSet (gN i) ce) ρ S Post := Ev.set h rfl q
theorem Ev.ret (h : ce ρ S = some (d, S')) (q : Post (.rt d S')) : Ev (sRet ce) ρ S Post := ⟨_, by simp only [sRet, h], q⟩
theorem Ev.expr (h : ce ρ S = some (d, S')) (q : Post (.nx ρ S')) : Ev (sExpr ce) ρ S Post := ⟨_, by simp only [sExpr, h], q⟩
theorem Ev.brk (q : Post (.bk ρ S)) : Ev sBreak ρ S Post := ⟨_, rfl, q⟩
theorem Ev.ite {c : Bool} (h : ct ρ S = some (c, S')) (q1 : c = true → Ev a ρ S' Post) (q2 : c = false → Ev b ρ S' Post) : Ev (sIf ct a b) ρ S Post := by
  cases c with
  | true =>
    obtain ⟨f, e, q⟩ := q1 rfl
    exact ⟨f, by simp only [sIf, h, e], q⟩
  | false =>
    obtain ⟨f, e, q⟩ := q2 rfl
    exact ⟨f, by simp only [sIf, h, e], q⟩
theorem Ev.ifT (h : ct ρ S = some (true, S')) (q : Ev a ρ S' Post) : Ev (sIf ct a b) ρ S Post := Ev.ite h (fun _ => q) fun z => by cases z
theorem Ev.ifF (h : ct ρ S = some (false, S')) (q : Ev b ρ S' Post) : Ev (sIf ct a b) ρ S Post := Ev.ite h (fun z => by cases z) fun _ => q
theorem Ev.for_ {α : Type} (en : α → D) (I : List α → Env' → Store → Prop) {xs : List D} {l : List α} (hi : ci ρ S = some ((xs, none), S')) (hx : xs = l.map en) (start : I l ρ S')
    (step : ∀ y ys ρ S, I (y :: ys) ρ S → ∃ ρ1, g (en y) ρ = some ρ1 ∧ Ev b ρ1 S (turnEv (I ys) Post)) (done : ∀ ρ S, I [] ρ S → Post (.nx ρ S)) : Ev (sFor ci g b) ρ S Post := by
  subst hx
  obtain ⟨f, e, q⟩ := forL_ex (g := g) (b := b) (xs := l.map en) en I Post (fun y ys ρ S h => by
    obtain ⟨ρ1, h1, f, h2, h3⟩ := step y ys ρ S h
    refine ⟨ρ1, h1, f, h2, ?_⟩
    cases f <;> exact h3) done l ρ S' start
  exact ⟨f, by simp only [sFor, hi, e], q⟩
theorem Ev.imp {P Q : Fl → Prop} (h : Ev a ρ S P) (i : ∀ f, P f → Q f) : Ev a ρ S Q := let ⟨f, e, q⟩ := h; ⟨f, e, i f q⟩
theorem Ev.while_ {α : Type} (I : α → Env' → Store → Prop) (m : α → Nat) (x : α) (start : I x ρ S)
    (step : ∀ x ρ S, I x ρ S → ∃ c S', ct ρ S = some (c, S') ∧ (c = false → Post (.nx ρ S')) ∧ (c = true → Ev a ρ S' (turnEv (fun ρ S => ∃ y, m y < m x ∧ I y ρ S) Post))) : Ev (sWhile ct a) ρ S Post := by
  have key : ∀ (k : Nat) (x : α) (ρ : Env') (S : Store), m x < k → I x ρ S → ∃ f, whileN ct a k ρ S = some f ∧ Post f := by
    intro k
    induction k with
    | zero => intro x ρ S h; omega
    | succ k ih =>
      intro x ρ S hm hI
      obtain ⟨c, S1, h1, h2, h3⟩ := step x ρ S hI
      unfold whileN
      rw [h1]
      cases c with
      | false => exact ⟨_, rfl, h2 rfl⟩
      | true =>
        obtain ⟨f, e, q⟩ := h3 rfl
        simp only [e]
        cases f with
        | nx ρ' S' =>
          obtain ⟨y, hy, q⟩ := q
          exact ih y ρ' S' (by omega) q
        | ct ρ' S' =>
          obtain ⟨y, hy, q⟩ := q
          exact ih y ρ' S' (by omega) q
        | bk ρ' S' => exact ⟨_, rfl, q⟩
        | rt d S' => exact ⟨_, rfl, q⟩
  obtain ⟨f, e, q⟩ := key (m x + 1) x ρ S (Nat.lt_succ_self _) start
  exact ⟨f, sWhile_of e, q⟩
theorem call_ev {n : Nat} {c : DS} {ds : List D} (h : Ev c (ds.map some ++ List.replicate (n - ds.length) none) S (fun f => ∃ T, f = .rt d (S ++ T))) (hb : below 0 d = true) : callF n c ds S = some (d, S) := by
  obtain ⟨f, e, T, rfl⟩ := h
  exact call_rt e hb
end
end DL

/-! Walks over dicts by nested tuples, locked meanwhile; displays of several entries; sums, maxima of tuples; in; defs that call themselves. -/
namespace DL
open PySem PySem.Spec PyProof.Rows L2

/-! ### the keys of a dict by tuples -/
def ItN (d : Addr) (o : Obj) (n : Nat) (xs : List (NestedKey × Addr × Value)) : It :=
  ⟨fun i H => H d = some (isO d o) ∧ i < n, fun i H x H' => H' = H ∧ ∃ k q v, xs[i]? = some (k, q, v) ∧ x = .ref q, fun i H => H d = some (isO d o) ∧ n ≤ i⟩
theorem isO_at {P : Program} {w : World} {X : Cx} {pins : List (Addr × Obj)} {σ : L2.St} {H : Hp} {s : Shared} {d : Addr} {o : Obj} (I : Inv X pins σ H s) (h : H d = some (isO d o)) : s.heap.get? d = some o :=
  (show ObjOk X.prog X.w H s.heap d (isO d o) from I.hok _ _ h).1
theorem turn_N {P : Program} {w : World} {K : PySem.W.Frag} {tg : Expr} {d it : Addr} {o : Obj} {es : Array DictEntry} {ep : Nat} {xs : List (NestedKey × Addr × Value)} (hod : o.data = .dict es ep) (hes : es.toList = xs.map (entryOfKey (nestedKind P w))) :
    Turn P w K tg (ItN d o xs.length xs) [it] it (fun i h => h.IsKeyIter it d i xs.length ep) where
  mem := by simp
  obj := fun i h st b hb => by
    have e : b = it := by simpa using hb
    subst e
    obtain ⟨oi, e, c, dd⟩ := st
    exact ⟨oi, e, fun v z => by rw [dd] at z; cases z⟩
  keep := fun i h h' st k => st.at fun oi e => k it (by simp) oi e
  item := by
    intro X hP hw hK hc i pins s σ H E I hf st hg
    subst hP hw hK
    obtain ⟨hd, hi⟩ := hg
    obtain ⟨f0, f1, f2, f3, f4, f5⟩ := hf it (by simp)
    have hgd := isO_at (P := X.prog) (w := X.w) I hd
    have hsz : es.size = xs.length := size_of_entries hes
    obtain ⟨⟨k, q, v⟩, hkv⟩ : ∃ p, xs[i]? = some p := ⟨xs[i], List.getElem?_eq_getElem hi⟩
    have hen : es[i]? = some (entryOfKey (nestedKind X.prog X.w) (k, q, v)) := by rw [entry_at hes i, hkv]; rfl
    refine next_key_item st hgd hod hsz hen fun h' st' sb => ?_
    have I1 : Inv X pins σ H { s with heap := h' } := I.turned (t' := s.toks) (fun b ob hb e => (sb.2 b hb).trans e) f0 f1 f3 f4 f5
    obtain ⟨oi, e, c, dd⟩ := id st'
    exact ⟨.ref q, rfl, go_of (s := { s with heap := h' }) e c dd (by decide) ⟨.ref q, H, I1, rfl, ⟨rfl, k, q, v, hkv, rfl⟩, st', fun b hb => (hf b hb).1⟩⟩
  done := by
    intro X hP hw hK hc i pins s σ H E I hf st hg
    subst hP hw hK
    obtain ⟨hd, hi⟩ := hg
    obtain ⟨f0, f1, f2, f3, f4, f5⟩ := hf it (by simp)
    have hgd := isO_at (P := X.prog) (w := X.w) I hd
    exact next_key_end (I.ok.hd hc) st hgd hod (size_of_entries hes) hi fun h' eb => ⟨rfl, I.turned (t' := s.toks) (fun b ob hb e => eb b ob hb e) f0 f1 f3 f4 f5⟩
  self := fun A i s Q E st h => by
    refine wpAny_pyIter_slot st.typeIs F.slot_dict_keyiterator_iter (wpAny_call_entry F.slot_dict_keyiterator_iter st.typeIs F.entry_dict_keyiterator_iter ?_ (F.args_dict_keyiterator_iter_1 _))
    show wpAny _ _ (ret (.ref it)) _ _ s
    exact wpAny_pure ⟨_, rfl, "dict_keyiterator", _, st.typeIs, F.slot_dict_keyiterator_next.lookup, h⟩
def iKeysN (P : Program) (w : World) (td : TE) : TI := fun σ H R => td σ H fun x H1 => ∃ d o xs, x = .ref d ∧ H1 d = some (isO d o) ∧ (d == sysModules) = false ∧ NObj P w o xs ∧ R (ItN d o xs.length xs) H1
theorem pi_keysN {X : Cx} {tg e : Expr} {td : TE} (he : PE X e td) : PI X tg e (iKeysN X.prog X.w td) := by
  refine ⟨fun pins s σ H R I h => ?_⟩
  refine thn (he.run pins s σ H _ I h) fun u s1 ⟨x, H1, I1, rx, d, o, xs, ex, h1, hs, hN, q⟩ => ?_
  subst ex
  obtain rfl : u = Value.ref d := rx
  obtain ⟨hx, ⟨es, ep, hdt, hes⟩, hnd⟩ := hN
  have hgd := isO_at (P := X.prog) (w := X.w) I1 h1
  refine iter_keys hs hgd hx hdt (pi_one (tk := s1.toks) I1 _ (turn_N hdt hes) ⟨_, Heap.get?_push_size _ rfl, rfl, ?_⟩ q)
  rw [size_of_entries hes] <;> rfl
/-- walked, the dict is locked -/
def cItK (c : DE) : DI := fun ρ S => match c ρ S with
  | some (.ref k, S1) => (match S1[k]? with
    | some (.dN _ kvs) => some ((kvs.map (·.1), none), S1.set k (.dN true kvs))
    | _ => none)
  | _ => none
section
variable {P : Program} {w : World} {K : PySem.W.Frag} {B B' : Wd} {S S' : Store} {H H' : Hp}
theorem paired_at {α β : Type} {F : α → β → Prop} : ∀ {l : List α} {m : List β} {i : Nat} {x : α}, Paired F l m → l[i]? = some x → ∃ y, m[i]? = some y ∧ F x y
  | _, _, _, _, .nil, e => by simp at e
  | _, _, 0, _, .cons r t, e => by simp at e; subst e; exact ⟨_, rfl, r⟩
  | _, _, i + 1, _, .cons r t, e => by
    obtain ⟨y, h1, h2⟩ := paired_at (i := i) t (by simpa using e)
    exact ⟨y, by simpa using h1, h2⟩
/-- one cell has another lock -/
theorem own_lk {k : Nat} {lk lk' : Bool} {kvs : List (D × D)} (e : S[k]? = some (.dN lk kvs)) {a : Addr} (o : Owned B (S.set k (.dN lk' kvs)) a) : Owned B S a := owned_set e (by simp) o
theorem own_lk' {k : Nat} {lk lk' : Bool} {kvs : List (D × D)} (e : S[k]? = some (.dN lk kvs)) {a : Addr} (o : Owned B S a) : Owned B (S.set k (.dN lk' kvs)) a := by
  have hl := (List.getElem?_eq_some_iff.mp e).1
  have e2 : (S.set k (.dN lk' kvs))[k]? = some (.dN lk' kvs) := List.getElem?_set_self hl
  have e3 : (S.set k (.dN lk' kvs)).set k (.dN lk kvs) = S := by
    rw [List.set_set]
    refine List.ext_getElem? fun i => ?_
    by_cases hi : i = k
    · subst hi; rw [List.getElem?_set_self hl, e]
    · rw [List.getElem?_set_ne (Ne.symm hi)]
  have := own_lk (B := B) (S := S.set k (.dN lk' kvs)) (lk' := lk) e2 (a := a)
  rw [e3] at this
  exact this o
theorem RV.lk {k : Nat} {lk lk' : Bool} {kvs : List (D × D)} (e : S[k]? = some (.dN lk kvs)) {d : D} {v : V} (r : RV K B S H v d) : RV K B (S.set k (.dN lk' kvs)) H v d :=
  RV.cut (n := S.length) (fun _ _ => rfl) (by simp) (fun a o => own_lk e o) d v r (RV.isBelow _ _ r)
theorem RVs.lk {k : Nat} {lk lk' : Bool} {kvs : List (D × D)} (e : S[k]? = some (.dN lk kvs)) {d : List D} {v : List V} (r : RVs K B S H v d) : RVs K B (S.set k (.dN lk' kvs)) H v d :=
  RVs.cut (n := S.length) (fun _ _ => rfl) (by simp) (fun a o => own_lk e o) d v r (RVs.areBelow _ _ r)
theorem RE.lk {k : Nat} {lk lk' : Bool} {kvs : List (D × D)} {σ : L2.St} {ρ : Env'} (e : S[k]? = some (.dN lk kvs)) (r : RE K B S H σ ρ) : RE K B (S.set k (.dN lk' kvs)) H σ ρ :=
  ⟨r.len, fun i d h => let ⟨v, h1, q⟩ := r.at_ i d h; ⟨v, h1, q.lk e⟩⟩
theorem lk_at {k i : Nat} {lk lk' : Bool} {kvs : List (D × D)} {c : Cell} (e : S[k]? = some (.dN lk kvs)) (h : (S.set k (.dN lk' kvs))[i]? = some c) : (i ≠ k ∧ S[i]? = some c) ∨ (i = k ∧ c = .dN lk' kvs) := by
  by_cases hi : i = k
  · subst hi
    rw [List.getElem?_set_self (List.getElem?_eq_some_iff.mp e).1] at h
    exact .inr ⟨rfl, (Option.some.inj h).symm⟩
  · rw [List.getElem?_set_ne (Ne.symm hi)] at h
    exact .inl ⟨hi, h⟩
theorem RS.lk {k : Nat} {lk lk' : Bool} {kvs : List (D × D)} (e : S[k]? = some (.dN lk kvs)) (r : RS P w K B S H) : RS P w K B (S.set k (.dN lk' kvs)) H := by
  refine ⟨fun i j ci cj ei ej ni nj eq => ?_, fun i c h => ?_, r.hdt, fun b i c hb h nc => ?_⟩
  · have f : ∀ {i : Nat} {ci : Cell}, (S.set k (.dN lk' kvs))[i]? = some ci → ci ≠ Cell.dead → ∃ ci', S[i]? = some ci' ∧ ci' ≠ Cell.dead := fun {i ci} h n => by
      rcases lk_at e h with ⟨_, h⟩ | ⟨rfl, h⟩
      · exact ⟨_, h, n⟩
      · exact ⟨_, e, by simp⟩
    obtain ⟨ci', hi, ni'⟩ := f ei ni
    obtain ⟨cj', hj, nj'⟩ := f ej nj
    exact r.inj i j ci' cj' hi hj ni' nj' eq
  · have cut : ∀ {c : Cell} {a : Addr}, CRl P w K B S H a c → CRl P w K B (S.set k (.dN lk' kvs)) H a c := fun {c a} q =>
      CRl.cut (n := S.length) (fun _ _ => rfl) (by simp) (fun a o => own_lk e o) q q.below
    rcases lk_at e h with ⟨_, h⟩ | ⟨rfl, rfl⟩
    · exact cut (r.cel i c h)
    · have q := cut (r.cel i _ e)
      exact q
  · rcases lk_at e h with ⟨_, h⟩ | ⟨rfl, rfl⟩
    · exact r.hdn b i c hb h nc
    · exact r.hdn b i _ hb e (by simp)
theorem Stp.lock {k : Nat} {lk : Bool} {kvs : List (D × D)} (e : S[k]? = some (.dN lk kvs)) : Stp B S H B (S.set k (.dN true kvs)) H :=
  ⟨⟨by simp, fun _ _ => rfl, fun _ _ h _ => h, fun _ _ _ o => own_lk e o, fun j kvs' h => by
    refine ⟨?_, rfl⟩
    by_cases hj : j = k
    · subst hj
      rw [e] at h
      cases h
      rw [List.getElem?_set_self (List.getElem?_eq_some_iff.mp e).1]
    · rw [List.getElem?_set_ne (Ne.symm hj)]; exact h⟩, rfl, fun _ _ => rfl⟩
theorem Stp.unlock {k : Nat} {lk : Bool} {kvs : List (D × D)} (st : Stp B S H B' S' H') (e : S'[k]? = some (.dN true kvs)) (h : lk = true ∨ ∀ kvs', S[k]? ≠ some (.dN true kvs')) : Stp B S H B' (S'.set k (.dN lk kvs)) H' :=
  ⟨⟨by rw [List.length_set]; exact st.len, st.agr, st.oth, fun a o h w => st.own a o h (own_lk e w), fun j kvs' hj => by
    obtain ⟨h1, h2⟩ := st.lks j kvs' hj
    refine ⟨?_, h2⟩
    by_cases z : j = k
    · subst z
      rcases h with h | h
      · subst h
        rw [e] at h1
        cases h1
        rw [List.getElem?_set_self (List.getElem?_eq_some_iff.mp e).1]
      · exact absurd hj (h kvs')
    · rw [List.getElem?_set_ne (Ne.symm z)]; exact h1⟩, st.hde, st.hdk⟩
end
theorem pdi_keysN {X : Cx} {tg e : Expr} {c : DE} (h : PD X e c) : PDI X tg e (cItK c) := pi_imp (pi_keysN h) fun σ H R ⟨B, ρ, S, m, S', hs, he, e, k⟩ => by
  unfold cItK at e
  split at e
  · rename_i i S1 e1
    split at e
    · rename_i lk kvs hk
      cases e
      refine ⟨B, ρ, S, _, _, hs, he, e1, fun B' v H' st hs' r => ?_⟩
      cases r with
      | ref lt =>
        obtain ⟨o, xs, h1, h2, h3, h4, h5⟩ := hs'.cel _ _ hk
        refine ⟨B' i, o, xs, rfl, h1, h2, h4, k B' _ H' (st.trans (Stp.lock hk)) (hs'.lk hk) ?_⟩
        have hlen : xs.length = kvs.length := (paired_len h5).symm
        have hk2 : (S1.set i (.dN true kvs))[i]? = some (.dN true kvs) := List.getElem?_set_self (List.getElem?_eq_some_iff.mp hk).1
        intro B2 S2 H2 st2 hs2 _ j
        obtain ⟨q1, q2⟩ := st2.lks i kvs hk2
        have h1' : H2 (B' i) = some (isO (B' i) o) := q2.trans h1
        have h5' : NRel X.K B2 S2 H2 kvs xs := NRel.mono ((Stp.lock (lk := lk) hk).toSt0.trans st2) h5
        refine ⟨fun d hd => ?_, fun ej => ⟨h1', by rw [ej, hlen]; simp⟩⟩
        rw [List.getElem?_map] at hd
        obtain ⟨p, hp, rfl⟩ := Option.map_eq_some_iff.mp hd
        obtain ⟨y, hy, f⟩ := paired_at h5' hp
        refine ⟨⟨h1', by rw [hlen]; exact (List.getElem?_eq_some_iff.mp hp).1⟩, fun x H'' yl => ?_⟩
        obtain ⟨rfl, k', q', v', e', rfl⟩ := yl
        rw [hy] at e'
        cases e'
        exact ⟨Stp.refl .., hs2, f.2.2.1⟩
    · cases e
  · cases e
/-- behind a walk: the lock is as before -/
def unS (k : Nat) (lk : Bool) (S : Store) : Option Store := match S[k]? with
  | some (.dN true kvs) => some (S.set k (.dN lk kvs))
  | _ => none
def unF (k : Nat) (lk : Bool) : Fl → Option Fl
  | .nx ρ S => (unS k lk S).map fun S' => .nx ρ S'
  | .rt d S => (unS k lk S).map fun S' => .rt d S'
  | .bk ρ S => (unS k lk S).map fun S' => .bk ρ S'
  | .ct ρ S => (unS k lk S).map fun S' => .ct ρ S'
def isLk : Option Cell → Bool
  | some (.dN true _) => true
  | _ => false
def lkOf (c : DE) : Env' → Store → Option (Nat × Bool) := fun ρ S => match c ρ S with
  | some (.ref k, S1) => (match S1[k]? with
    | some (.dN lk _) => if lk = true ∨ isLk S[k]? = false then some (k, lk) else none
    | _ => none)
  | _ => none
def sUnK (c : DE) (s : DS) : DS := fun ρ S => match lkOf c ρ S with
  | some (k, lk) => (s ρ S).bind (unF k lk)
  | none => none
def cUnK (c : DE) (e : DE) : DE := fun ρ S => match lkOf c ρ S with
  | some (k, lk) => (e ρ S).bind fun (d, S') => (unS k lk S').map fun S2 => (d, S2)
  | none => none
theorem lkOf_inv {c : DE} {ρ : Env'} {S : Store} {k : Nat} {lk : Bool} (h : lkOf c ρ S = some (k, lk)) : lk = true ∨ ∀ kvs', S[k]? ≠ some (.dN true kvs') := by
  unfold lkOf at h
  split at h
  · split at h
    · split at h
      · rename_i hh
        cases h
        rcases hh with hh | hh
        · exact .inl hh
        · exact .inr fun kvs' z => by rw [z] at hh; cases hh
      · cases h
    · cases h
  · cases h
theorem unS_inv {k : Nat} {lk : Bool} {S S' : Store} (h : unS k lk S = some S') : ∃ kvs, S[k]? = some (.dN true kvs) ∧ S' = S.set k (.dN lk kvs) := by
  unfold unS at h
  split at h
  · cases h; exact ⟨_, by assumption, rfl⟩
  · cases h
theorem pds_unK {X : Cx} {c : DE} {s : Stmt} {cs : DS} (h : PDS X s cs) : PDS X s (sUnK c cs) := ps_imp h fun E σ H ⟨B, ρ, S, f, hs, he, ef, k⟩ => by
  unfold sUnK at ef
  split at ef
  · rename_i i lk hl
    have hl := lkOf_inv hl
    obtain ⟨f0, e1, e2⟩ := Option.bind_eq_some_iff.mp ef
    refine ⟨B, ρ, S, f0, hs, he, e1, ?_⟩
    cases f0 with
    | nx ρ' S' =>
      obtain ⟨S2, e3, e4⟩ := Option.map_eq_some_iff.mp e2
      obtain ⟨kvs, h1, rfl⟩ := unS_inv e3
      subst e4
      exact fun B' σ' H' st hs' he' => k B' σ' H' (st.unlock h1 hl) (hs'.lk h1) (he'.lk h1)
    | rt d S' =>
      obtain ⟨S2, e3, e4⟩ := Option.map_eq_some_iff.mp e2
      obtain ⟨kvs, h1, rfl⟩ := unS_inv e3
      subst e4
      exact fun B' v H' st hs' r => k B' v H' (st.unlock h1 hl) (hs'.lk h1) (r.lk h1)
    | bk ρ' S' =>
      obtain ⟨S2, e3, e4⟩ := Option.map_eq_some_iff.mp e2
      obtain ⟨kvs, h1, rfl⟩ := unS_inv e3
      subst e4
      exact fun B' σ' H' st hs' he' => k B' σ' H' (st.unlock h1 hl) (hs'.lk h1) (he'.lk h1)
    | ct ρ' S' =>
      obtain ⟨S2, e3, e4⟩ := Option.map_eq_some_iff.mp e2
      obtain ⟨kvs, h1, rfl⟩ := unS_inv e3
      subst e4
      exact fun B' σ' H' st hs' he' => k B' σ' H' (st.unlock h1 hl) (hs'.lk h1) (he'.lk h1)
  · cases ef
theorem pd_unK {X : Cx} {c : DE} {e : Expr} {ce : DE} (h : PD X e ce) : PD X e (cUnK c ce) := pe_imp h fun σ H Q ⟨B, ρ, S, d, S', hs, he, ee, k⟩ => by
  unfold cUnK at ee
  split at ee
  · rename_i i lk hl
    have hl := lkOf_inv hl
    obtain ⟨⟨d0, S0⟩, e1, e2⟩ := Option.bind_eq_some_iff.mp ee
    obtain ⟨S2, e3, e4⟩ := Option.map_eq_some_iff.mp e2
    obtain ⟨kvs, h1, rfl⟩ := unS_inv e3
    cases e4
    exact ⟨B, ρ, S, d, S0, hs, he, e1, fun B' v H' st hs' r => k B' v H' (st.unlock h1 hl) (hs'.lk h1) (r.lk h1)⟩
  · cases ee

/-! ### {k: v, ..}: several entries, keys ints and texts -/
def cPrs : List (DE × DE) → Env' → Store → Option (List (D × D) × Store)
  | [] => fun _ S => some ([], S)
  | (ck, cv) :: r => fun ρ S => match ck ρ S with
    | some (k, S1) => (match cv ρ S1 with
      | some (v, S2) => (match cPrs r ρ S2 with
        | some (ps, S3) => some ((k, v) :: ps, S3)
        | none => none)
      | none => none)
    | none => none
def keysK : List (D × D) → Option (List (Key × D))
  | [] => some []
  | (k, v) :: r => match keyK k with
    | some q => (keysK r).map fun l => (q, v) :: l
    | none => none
def kMerge (kvs more : List (Key × D)) : List (Key × D) := more.foldl (fun acc kv => kPut acc kv.1 kv.2) kvs
def cDispK (ps : List (DE × DE)) : DE := fun ρ S => match cPrs ps ρ S with
  | some (kds, S2) => (match keysK kds with
    | some kvs => some (.ref S2.length, S2 ++ [.dK false (kMerge [] kvs)])
    | none => none)
  | none => none
section
variable {P : Program} {w : World} {K : PySem.W.Frag} {B B' : Wd} {S S' : Store} {H H' : Hp}
theorem krel_merge : ∀ {more : List (Key × D)} {mx : List (Key × V)} {kxs : List (Key × V)} {kvs : List (Key × D)}, KRel K B S H mx more → KRel K B S H kxs kvs → KRel K B S H (mergeK kxs mx) (kMerge kvs more)
  | _, _, _, _, .nil, h => h
  | _, _, _, _, .cons (a := p) (b := q) r t, h => by
    show KRel K B S H (mergeK (putK _ p.1 p.2) _) (kMerge (kPut _ q.1 q.2) _)
    refine krel_merge t ?_
    rw [r.1]
    exact krel_put q.1 r.2 h
abbrev tPrs (P : Program) (w : World) (K : PySem.W.Frag) : List (DE × DE) → List (TE × TE) := List.map fun p => (tD P w K p.1, tD P w K p.2)
def PR (K : PySem.W.Frag) (B : Wd) (S : Store) (H : Hp) : List (V × V) → List (D × D) → Prop := Paired fun p q => RV K B S H p.1 q.1 ∧ RV K B S H p.2 q.2
theorem PR.mono {vs : List (V × V)} {ds : List (D × D)} (s : Stp B S H B' S' H') (r : PR K B S H vs ds) : PR K B' S' H' vs ds := paired_map (fun _ _ h => ⟨RV.mono s _ _ h.1, RV.mono s _ _ h.2⟩) r
theorem prs_read {σ : L2.St} {ρ : Env'} : ∀ {ps : List (DE × DE)} {B : Wd} {S : Store} {H : Hp} {kds : List (D × D)} {S2 : Store} {Q : List (V × V) → Hp → Prop}, RS P w K B S H → RE K B S H σ ρ → cPrs ps ρ S = some (kds, S2) →
    (∀ B2 vs H2, Stp B S H B2 S2 H2 → RS P w K B2 S2 H2 → PR K B2 S2 H2 vs kds → Q vs H2) → tPairs (tPrs P w K ps) σ H Q
  | [], B, S, H, kds, S2, Q, hs, he, e, k => by
    cases e
    exact k B [] H (Stp.refl ..) hs .nil
  | (ck, cv) :: r, B, S, H, kds, S2, Q, hs, he, e, k => by
    unfold cPrs at e
    split at e
    · rename_i dk S1 e1
      split at e
      · rename_i dv S2' e2
        split at e
        · rename_i ps S3 e3
          cases e
          refine ⟨B, ρ, S, dk, S1, hs, he, e1, fun B1 v1 H1 st1 hs1 r1 => ⟨B1, ρ, S1, dv, S2', hs1, he.mono st1, e2, fun B2 v2 H2 st2 hs2 r2 => ?_⟩⟩
          refine prs_read (ps := r) hs2 ((he.mono st1).mono st2) e3 fun B3 vs H3 st3 hs3 r3 => ?_
          exact k B3 _ H3 ((st1.trans st2).trans st3) hs3 (.cons ⟨RV.mono (st2.trans st3) _ _ r1, RV.mono st3 _ _ r2⟩ r3)
        · cases e
      · cases e
    · cases e
theorem keyK_vK {y : V} {dy : D} {q : Key} (r : RV K B S H y dy) (e : keyK dy = some q) : y = kV q := by
  unfold keyK at e
  split at e
  · cases e; exact r.intI
  · cases e; exact r.strI
  · cases e
theorem keysK_rel : ∀ {vs : List (V × V)} {kds : List (D × D)} {kvs : List (Key × D)}, PR K B S H vs kds → keysK kds = some kvs → ∃ kxs : List (Key × V), vs = kxs.map (fun kv => (kV kv.1, kv.2)) ∧ KRel K B S H kxs kvs
  | _, _, _, .nil, e => by cases e; exact ⟨[], rfl, .nil⟩
  | _, _, _, .cons (a := p) (b := q) r t, e => by
    obtain ⟨dk, dv⟩ := q
    unfold keysK at e
    split at e
    · rename_i q hq
      obtain ⟨l, e1, e2⟩ := Option.map_eq_some_iff.mp e
      cases e2
      obtain ⟨kxs, h1, h2⟩ := keysK_rel t e1
      refine ⟨(q, p.2) :: kxs, ?_, .cons ⟨rfl, r.2⟩ h2⟩
      rw [List.map_cons, h1]
      have := keyK_vK r.1 hq
      obtain ⟨p1, p2⟩ := p
      simp only at this
      subst this
      rfl
    · cases e
end
inductive PPrs (X : Cx) (pos : Pos) : List (Option Expr) → List Expr → List (DE × DE) → Prop
  | nil : PPrs X pos [] [] []
  | cons {k v : Expr} {ks : List (Option Expr)} {vs : List Expr} {ck cv : DE} {r : List (DE × DE)} : PD X k ck → PD X v cv → PPrs X pos ks vs r → PPrs X pos (some k :: ks) (v :: vs) ((ck, cv) :: r)
theorem PPrs.pps {X : Cx} {pos : Pos} {ks : List (Option Expr)} {vs : List Expr} {r : List (DE × DE)} (h : PPrs X pos ks vs r) : PPs X pos ks vs (tPrs X.prog X.w X.K r) := by
  induction h with
  | nil => exact pps_nil
  | cons hk hv _ ih => exact pps_cons hk hv ih
theorem PPrs.len {X : Cx} {pos : Pos} {ks : List (Option Expr)} {vs : List Expr} {r : List (DE × DE)} (h : PPrs X pos ks vs r) : r.length = ks.length ∧ vs.length = ks.length ∧ ks.all (·.isSome) = true := by
  induction h with
  | nil => exact ⟨rfl, rfl, rfl⟩
  | cons hk hv _ ih => exact ⟨by simp [ih.1], by simp [ih.2.1], by simpa using ih.2.2⟩
theorem cPrs_len {ρ : Env'} : ∀ {ps : List (DE × DE)} {S : Store} {kds : List (D × D)} {S2 : Store}, cPrs ps ρ S = some (kds, S2) → kds.length = ps.length
  | [], _, _, _, e => by cases e; rfl
  | (ck, cv) :: r, S, kds, S2, e => by
    unfold cPrs at e
    split at e
    · split at e
      · split at e
        · rename_i e3
          cases e
          simp [cPrs_len e3]
        · cases e
      · cases e
    · cases e
theorem keysK_len : ∀ {kds : List (D × D)} {kvs : List (Key × D)}, keysK kds = some kvs → kvs.length = kds.length
  | [], _, e => by cases e; rfl
  | (k, v) :: r, _, e => by
    unfold keysK at e
    split at e
    · obtain ⟨l, e1, e2⟩ := Option.map_eq_some_iff.mp e
      cases e2
      simp [keysK_len e1]
    · cases e
theorem pd_dispK {X : Cx} {pos : Pos} {ks : List (Option Expr)} {vs : List Expr} {r : List (DE × DE)} (h : PPrs X pos ks vs r) (h0 : ks ≠ []) (h15 : ks.length ≤ 15) : PD X (.Dict ks vs pos) (cDispK r) := by
  obtain ⟨l1, l2, l3⟩ := h.len
  refine pe_imp (pe_disp h.pps l3 l2.symm h0 h15) fun σ H Q ⟨B, ρ, S, d, S', hs, he, e, kk⟩ p hp => ?_
  unfold cDispK at e
  split at e
  · rename_i kds S2 e1
    split at e
    · rename_i kvs e2
      cases e
      refine prs_read (B := B) (S := S) (hs.new hp) (he.mono (Stp.new hs hp)) e1 fun B2 vs H2 st2 hs2 r2 => ?_
      obtain ⟨kxs, g1, g2⟩ := keysK_rel r2 e2
      obtain ⟨h1, h2, h3, h4⟩ := disp_core (u := .dK []) (o' := .dK (mergeK [] kxs)) (c := .dK false (kMerge [] kvs)) hs hp ⟨fun _ z => (nomatch z), fun _ z => (nomatch z), fun _ _ z => (nomatch z)⟩ st2 hs2
      have hlen : kxs.length ≤ 15 := by
        have a1 := paired_len r2
        rw [g1, List.length_map] at a1
        rw [a1, cPrs_len e1, l1]
        exact h15
      refine ⟨h1, kxs, g1, hlen, ?_⟩
      have g2' : KRel X.K (addB B2 S2.length p) (S2 ++ [.dK false (kMerge [] kvs)]) (upd H2 p (.dK (mergeK [] kxs))) (mergeK [] kxs) (kMerge [] kvs) :=
        krel_merge (paired_map (fun _ _ z => ⟨z.1, disp_keep h3 (h2 _ _ z.2)⟩) g2) .nil
      obtain ⟨f1, f2, f3⟩ := h4 ⟨mergeK [] kxs, g2', by simp only [Bool.false_eq_true, if_false]; exact upd_same⟩
      exact kk _ _ _ f1 f2 f3
    · cases e
  · cases e

/-! ### sum, max of a tuple; the length of a dict; in a list or a tuple of ints -/
def rSumT (K : PySem.W.Frag) : List V → Hp → VK → Prop := fun vs H Q => ∃ (a : Addr) (ns : List Int), vs = [V.ref a] ∧ SqT K H a (ns.map V.int) ∧ Q (.int ns.sum) H
theorem cr_sumT {X : Cx} (hc : X.calm = true) : CallR X (.builtin "sum") (rSumT X.K) := by
  intro pins s σ H vs us Q I r h
  obtain ⟨a, ns, rfl, hs, q⟩ := h
  obtain ⟨its, rv, ht, hz⟩ := I.tuple hs
  rw [Vals.ref1 r]
  have hi := rv.ints
  obtain ⟨xs, hx⟩ := hi.allInts.items
  have hn : numsOf its.toArray.toList = ns := by rw [show its.toArray.toList = its from rfl, hi.numsOf]
  have ht' : s.heap.IsTuple a its.toArray := ht
  rw [hx] at ht' hn
  rw [nums_intItems] at hn
  refine PySem.W.ktm_sumG (I.ok.hd hc) ht' fun h' tk t' hk => ?_
  rw [preSum_eq, List.take_of_length_le (by simp), hn]
  exact ⟨.int _, H, I.kept hk, ⟨_, rfl⟩, q⟩
def sum3D : List D → Store → Option (D × Store) := fun xs S => match xs with
  | [.tup ds] => (match asInts ds with
    | some ns => some (.int ns.sum, S)
    | none => none)
  | xs => sumD xs S
theorem ok_sum3 {P : Program} {w : World} {K : PySem.W.Frag} : OkN P w K (fun xs H Q => rSum K xs H Q ∨ rSumT K xs H Q) sum3D := by
  intro B S H xs dxs d S' Q hs rx e k
  unfold sum3D at e
  split at e
  · split at e
    · rename_i ns hn
      cases e
      obtain ⟨v, rfl, r⟩ := rx.one
      obtain ⟨a, us, rfl, ha, qa⟩ := r.tupI
      have := asInts_ok hn qa
      subst this
      exact .inr ⟨a, ns, rfl, ha, k B _ H (Stp.refl ..) hs (.int _)⟩
    · cases e
  · exact .inl (ok_sum B S H xs dxs d S' Q hs rx e k)
theorem pd_sum3 {X : Cx} {a : Expr} {es : List Expr} {p pos : Pos} {cs : DA} (hc : X.calm = true) (hm : X.mg "sum" = none) (ha : PDA X (a :: es) cs) (hg : Gl X "sum" := by rfl) (he : starEach (a :: es) X.env = (false, eval a X.env) :: starEach es X.env := by rfl) (hpl : (backTo pos (starEach es X.env)).any (·.1) = false := by rfl) : PD X (.Call (.Name "sum" p) (a :: es) [] pos) (cApp sum3D cs) :=
  pd_callB ((cr_sum hc).or (cr_sumT hc)) ok_sum3 hg hm (by decide +kernel) (by decide) (by decide) ha he hpl
def rMaxT (K : PySem.W.Frag) : List V → Hp → VK → Prop := fun vs H Q => ∃ (a : Addr) (ns : List Int), vs = [V.ref a] ∧ SqT K H a (ns.map V.int) ∧ ns ≠ [] ∧ Q (.int (maxL ns)) H
theorem maxOf_maxL : ∀ (xs : List Int) (x : Int), PySem.W.maxOf x xs = maxL (x :: xs)
  | [], x => rfl
  | y :: ys, x => by
    have ih := maxOf_maxL ys (if x < y then y else x)
    have e : PySem.W.maxOf x (y :: ys) = PySem.W.maxOf (if x < y then y else x) ys := by
      show List.foldl _ (if decide (x < y) = true then y else x) ys = List.foldl _ (if x < y then y else x) ys
      simp only [decide_eq_true_eq]
    rw [e, ih]
    cases ys with
    | nil =>
      show (if x < y then y else x) = max x y
      split <;> omega
    | cons z zs =>
      show max (if x < y then y else x) (maxL (z :: zs)) = max x (max y (maxL (z :: zs)))
      split <;> omega
theorem cr_maxT {X : Cx} (hc : X.calm = true) (hu : X.A.units + 64 < cLine) : CallR X (.builtin "max") (rMaxT X.K) := by
  intro pins s σ H vs us Q I r h
  obtain ⟨a, ns, rfl, hs, hne, q⟩ := h
  obtain ⟨its, rv, ht, hz⟩ := I.tuple hs
  rw [Vals.ref1 r]
  cases ns with
  | nil => exact absurd rfl hne
  | cons n ns =>
    refine PySem.W.max_tuple_datum (α := Int) (x := n) (xs := ns) (I.ok.hd hc) ht (PySem.W.HoldAll.of_ints rv.ints) (by show X.A.units + 1 + 0 < _; omega) fun i v h' tk hv hh hk => ?_
    have hv' : its[i]? = some v := by simpa using hv
    obtain ⟨x, hx, rx⟩ : ∃ x, (List.map V.int (n :: ns))[i]? = some x ∧ RelV x v := by
      obtain ⟨hl, he⟩ := List.getElem?_eq_some_iff.mp hv'
      have hl2 : i < (List.map V.int (n :: ns)).length := by rw [rv.length]; exact hl
      obtain ⟨u, hu', ru⟩ := rv.get (List.getElem?_eq_getElem hl2)
      rw [hv'] at hu'; cases hu'
      exact ⟨_, List.getElem?_eq_getElem hl2, ru⟩
    rw [List.getElem?_map] at hx
    obtain ⟨j, _, rfl⟩ := Option.map_eq_some_iff.mp hx
    obtain ⟨t, rfl⟩ := rx
    obtain ⟨as, rd⟩ := hh
    have ej : j = PySem.W.maxOf n ns := by
      cases rd
      rfl
    refine ⟨.int j, H, I.kept hk, ⟨t, rfl⟩, ?_⟩
    rw [ej, maxOf_maxL]
    exact q
def max3D : List D → Store → Option (D × Store) := fun xs S => match xs with
  | [.tup ds] => (match asInts ds with
    | some ns => if ns = [] then none else some (.int (maxL ns), S)
    | none => none)
  | xs => max2D xs S
theorem ok_max3 {P : Program} {w : World} {K : PySem.W.Frag} : OkN P w K (fun xs H Q => ((∃ i j, xs = [.int i, .int j] ∧ Q (.int (if j > i then j else i)) H) ∨ rMax K xs H Q) ∨ rMaxT K xs H Q) max3D := by
  intro B S H xs dxs d S' Q hs rx e k
  unfold max3D at e
  split at e
  · split at e
    · rename_i ns hn
      split at e
      · cases e
      · rename_i hne
        cases e
        obtain ⟨v, rfl, r⟩ := rx.one
        obtain ⟨a, us, rfl, ha, qa⟩ := r.tupI
        have := asInts_ok hn qa
        subst this
        exact .inr ⟨a, ns, rfl, ha, hne, k B _ H (Stp.refl ..) hs (.int _)⟩
    · cases e
  · exact .inl (ok_max B S H xs dxs d S' Q hs rx e k)
theorem pd_max3 {X : Cx} {a : Expr} {es : List Expr} {p pos : Pos} {cs : DA} (hc : X.calm = true) (hu : X.A.units + 64 < cLine) (hm : X.mg "max" = none) (ha : PDA X (a :: es) cs) (hg : Gl X "max" := by rfl) (he : starEach (a :: es) X.env = (false, eval a X.env) :: starEach es X.env := by rfl) (hpl : (backTo pos (starEach es X.env)).any (·.1) = false := by rfl) : PD X (.Call (.Name "max" p) (a :: es) [] pos) (cApp max3D cs) :=
  pd_callB (((call_max2 hc).or (cr_max hc)).or (cr_maxT hc hu)) ok_max3 hg hm (by decide +kernel) (by decide) (by decide) ha he hpl
/-- len, of a dict by tuples too -/
def rLenN (P : Program) (w : World) (K : PySem.W.Frag) : List V → Hp → VK → Prop := fun vs H Q => ∃ (a : Addr) (o : Obj) (xs : List (NestedKey × Addr × Value)) (B : Wd) (S : Store) (kvs : List (D × D)), vs = [V.ref a] ∧ H a = some (isO a o) ∧ (a == sysModules) = false ∧ kvs.length ≤ sizeLine ∧ NObj P w o xs ∧ NRel K B S H kvs xs ∧ Q (.int kvs.length) H
theorem call_lenN {X : Cx} : CallR X (.builtin "len") (rLenN X.prog X.w X.K) := by
  intro pins s σ H vs us Q I r h
  obtain ⟨a, o, xs, B, S, kvs, rfl, hp, hz, hl, hn, hr, q⟩ := h
  obtain ⟨u, rfl, rx⟩ := vals1 r
  obtain rfl : u = .ref a := rx
  have dd := ndict_of I hp hn hr
  have el : xs.length = kvs.length := (paired_len hr).symm
  refine call_len_dictH hz dd (by rw [sizeLine_eq] at hl; omega) ?_
  rw [el]
  exact ⟨.int ((kvs.length : Nat) : Int), H, I.tok _, ⟨_, rfl⟩, q⟩
def len3D : List D → Store → Option (D × Store) := fun xs S => match xs with
  | [.ref k] => (match S[k]? with
    | some (.dN _ kvs) => some (.int kvs.length, S)
    | _ => lenD [.ref k] S)
  | xs => lenD xs S
theorem ok_len3 {P : Program} {w : World} {K : PySem.W.Frag} : OkN P w K (fun xs H Q => (∃ x n, xs = [x] ∧ LenV K x H n ∧ Q (.int n) H) ∨ rLenN P w K xs H Q) len3D := by
  intro B S H xs dxs d S' Q hs rx e k
  unfold len3D at e
  split at e
  · split at e
    · rename_i i lk kvs hk
      cases e
      obtain ⟨v, rfl, r⟩ := rx.one
      cases r with
      | ref lt =>
        obtain ⟨o, xs, h1, h2, h3, h4, h5⟩ := hs.cel _ _ hk
        exact .inr ⟨_, o, xs, B, _, kvs, rfl, h1, h2, h3, h4, h5, k B _ H (Stp.refl ..) hs (.int _)⟩
    · exact .inl (ok_len B S H xs _ d S' Q hs rx e k)
  · exact .inl (ok_len B S H xs dxs d S' Q hs rx e k)
theorem pd_len3 {X : Cx} {a : Expr} {es : List Expr} {p pos : Pos} {cs : DA} (hm : X.mg "len" = none) (ha : PDA X (a :: es) cs) (hg : Gl X "len" := by rfl) (he : starEach (a :: es) X.env = (false, eval a X.env) :: starEach es X.env := by rfl) (hpl : (backTo pos (starEach es X.env)).any (·.1) = false := by rfl) : PD X (.Call (.Name "len" p) (a :: es) [] pos) (cApp len3D cs) :=
  pd_callB (call_len.or call_lenN) ok_len3 hg hm (by decide +kernel) (by decide) (by decide) ha he hpl
/-- x in xs, of ints -/
def inLD (neg : Bool) : D → D → Store → Option (D × Store) := fun x y S => match x with
  | .int i => (match asSeq S y with
    | some ds => (match asInts ds with
      | some ns => some (.bl (if neg = true then !decide (i ∈ ns) else decide (i ∈ ns)), S)
      | none => none)
    | none => none)
  | _ => none
theorem inV_ints (i : Int) (ns : List Int) : inV (.int i) (ns.map V.int) = decide (i ∈ ns) := by
  unfold inV
  rw [List.any_map, Bool.eq_iff_iff, List.any_eq_true, decide_eq_true_eq]
  constructor
  · rintro ⟨x, h1, h2⟩
    have : x = i := by simpa [eqV] using h2
    exact this ▸ h1
  · intro h
    exact ⟨i, h, by simp [eqV]⟩
theorem flat_ints (ns : List Int) : (ns.map V.int).all flatV = true := by
  rw [List.all_map, List.all_eq_true]
  intro x _
  rfl
theorem ok_inL {P : Program} {w : World} {K : PySem.W.Frag} (neg : Bool) : Ok2 P w K (rIn K neg) (inLD neg) := by
  intro B S H x y dx dy d S' Q hs rx ry e k
  unfold inLD at e
  split at e
  · rename_i i
    split at e
    · rename_i ds hd
      split at e
      · rename_i ns hn
        cases e
        obtain ⟨a, us, rfl, ha, qa⟩ := asSeq_ok hs ry hd
        have := asInts_ok hn qa
        subst this
        have := rx.intI
        subst this
        refine ⟨a, _, rfl, ha, rfl, flat_ints ns, ?_⟩
        rw [inV_ints]
        exact k B _ H (Stp.refl ..) hs (.bl _)
      · cases e
    · cases e
  · cases e
section
variable {X : Cx} {a b : Expr} {ca cb : DE} {pos : Pos}
theorem pd_inL (ha : PD X a ca) (hb : PD X b cb) (hm : behindInMarks .In b = false := by rfl) : PD X (.Compare a [.In] [b] pos) (cBin (inLD false) ca cb) := pd_cmp op_in_seq (ok_inL false) hm ha hb
theorem pd_notInL (ha : PD X a ca) (hb : PD X b cb) (hm : behindInMarks .NotIn b = false := by rfl) : PD X (.Compare a [.NotIn] [b] pos) (cBin (inLD true) ca cb) := pd_cmp op_notIn_seq (ok_inL true) hm ha hb
theorem pdt_inL (ha : PD X a ca) (hb : PD X b cb) (hm : behindInMarks .In b = false := by rfl) : PDT X (.Compare a [.In] [b] pos) (cB (cBin (inLD false) ca cb)) := pdt_cmp op_in_seq (ok_inL false) hm ha hb
theorem pdt_notInL (ha : PD X a ca) (hb : PD X b cb) (hm : behindInMarks .NotIn b = false := by rfl) : PDT X (.Compare a [.NotIn] [b] pos) (cB (cBin (inLD true) ca cb)) := pdt_cmp op_notIn_seq (ok_inL true) hm ha hb
end

/-! ### list(range(n)) -/

/-! ### defs that call themselves -/
theorem DefOk.none {P : Program} {w : World} {K : PySem.W.Frag} {mg : Str → Option Value} {base : Heap} {x : Str} {ps : List Str} {st : Stmt} {k : Nat} (D : DefAt K mg x st)
    (hb : ∀ (f : Addr) (fd : FuncData), FunD K x x (defArgs st) (defBody st) (defScope st) [] [] f fd → Binds K fd ps []) : DefOk P w K mg base x k ps (fun _ _ => none) := by
  obtain ⟨f, fd, F, hm⟩ := D
  refine ⟨f, fd, ⟨fun vs H Q E h => h.1, fun A outer s H args us vs Q E hr he hbd hv h => ?_⟩, hm, F.kp, hb f fd F, fdAt_of F⟩
  obtain ⟨_, B, S, ds, d, S', _, _, e, _⟩ := h
  cases e
end DL

/-! list(range(..)); defs whose store is kept whole. -/
namespace DL
open PySem PySem.Spec PyProof.Rows L2

def inRg (a b : Int) : Prop := RgOk a b
open Classical in
noncomputable def cListRg (bx : Bool) (a b : DE) : DE := fun ρ S => match a ρ S with
  | some (.int i, S1) => (match b ρ S1 with
    | some (.int j, S2) => if inRg i j then (if bx = true then some (.ref S2.length, S2 ++ [.lst (itRange i (j - i).toNat).1]) else some (.lst (itRange i (j - i).toNat).1, S2)) else none
    | _ => none)
  | _ => none
theorem rvs_rg {K : PySem.W.Frag} {B : Wd} {S : Store} {H : Hp} (i : Int) : ∀ l : List Nat, RVs K B S H (l.map fun n => V.int (i + (n : Nat))) (l.map fun n => D.int (i + (n : Nat)))
  | [] => .nil
  | _ :: l => .cons (.int _) (rvs_rg i l)
theorem listRg_fin {P : Program} {w : World} {K : PySem.W.Frag} {bx : Bool} {B : Wd} {S S' : Store} {H : Hp} {i j : Int} {d : D} {Q : VK} (hs : RS P w K B S H)
    (e : (if bx = true then some (D.ref S.length, S ++ [Cell.lst (itRange i (j - i).toNat).1]) else some (.lst (itRange i (j - i).toNat).1, S)) = some (d, S'))
    (k : ∀ B' v H', Stp B S H B' S' H' → RS P w K B' S' H' → RV K B' S' H' v d → Q v H') : ∀ q, H q = none → Q (.ref q) (upd H q (.lst (rgV i j))) := by
  intro q hq
  have r : RVs K B S H (rgV i j) (itRange i (j - i).toNat).1 := rvs_rg i _
  split at e
  · cases e
    obtain ⟨h1, h2, h3⟩ := box_new hs r hq
    exact k _ _ _ h1 h2 h3
  · cases e
    exact k B _ _ (Stp.new hs hq) (hs.new hq) (RV.newLst hs hq r)
theorem pd_listRg2 {X : Cx} {a b : Expr} {ca cb : DE} {p pos p' pos' : Pos} {bx : Bool} (hc : X.calm = true) (hm : X.mg "list" = none) (hm' : X.mg "range" = none) (ha : PD X a ca) (hb : PD X b cb) (hg : Gl X "list" := by rfl) (hg' : Gl X "range" := by rfl)
    (na : starEach [.Call (.Name "range" p') [a, b] [] pos'] X.env = (false, eval (.Call (.Name "range" p') [a, b] [] pos') X.env) :: starEach [] X.env := by rfl)
    (nb : starEach [a, b] X.env = (false, eval a X.env) :: starEach [b] X.env := by rfl) (nc : starEach [b] X.env = (false, eval b X.env) :: starEach [] X.env := by rfl) (hp : (backTo pos' (starEach [b] X.env)).any (·.1) = false := by rfl) :
    PD X (.Call (.Name "list" p) [.Call (.Name "range" p') [a, b] [] pos'] [] pos) (cListRg bx ca cb) :=
  pe_imp (pe_listRg hc hg hm (prg_2 hg' hm' ha hb nb nc hp) na) fun σ H Q ⟨B, ρ, S, d, S', hs, he, e, k⟩ => by
    unfold cListRg at e
    split at e
    · rename_i i S1 e1
      split at e
      · rename_i j S2 e2
        split at e
        · rename_i hr
          refine ⟨B, ρ, S, _, S1, hs, he, e1, fun B1 v1 H1 st1 hs1 r1 => ⟨B1, ρ, S1, _, S2, hs1, he.mono st1, e2, fun B2 v2 H2 st2 hs2 r2 => ⟨i, j, (RV.mono st2 _ _ r1).intI, r2.intI, hr, ?_⟩⟩⟩
          exact listRg_fin hs2 e fun B' v H' st hs' r => k B' v H' ((st1.trans st2).trans st) hs' r
        · cases e
      · cases e
    · cases e
theorem pd_listRg1 {X : Cx} {a : Expr} {ca : DE} {p pos p' pos' : Pos} {bx : Bool} (hc : X.calm = true) (hm : X.mg "list" = none) (hm' : X.mg "range" = none) (ha : PD X a ca) (hg : Gl X "list" := by rfl) (hg' : Gl X "range" := by rfl)
    (na : starEach [.Call (.Name "range" p') [a] [] pos'] X.env = (false, eval (.Call (.Name "range" p') [a] [] pos') X.env) :: starEach [] X.env := by rfl)
    (nb : starEach [a] X.env = (false, eval a X.env) :: starEach [] X.env := by rfl) :
    PD X (.Call (.Name "list" p) [.Call (.Name "range" p') [a] [] pos'] [] pos) (cListRg bx (cC (.int 0)) ca) :=
  pe_imp (pe_listRg hc hg hm (prg_1 hg' hm' ha nb) na) fun σ H Q ⟨B, ρ, S, d, S', hs, he, e, k⟩ => by
    unfold cListRg at e
    simp only [cC] at e
    split at e
    · rename_i j S2 e2
      split at e
      · rename_i hr
        refine ⟨B, ρ, S, _, S2, hs, he, e2, fun B2 v2 H2 st2 hs2 r2 => ⟨j, r2.intI, hr, ?_⟩⟩
        exact listRg_fin hs2 e fun B' v H' st hs' r => k B' v H' (st2.trans st) hs' r
      · cases e
    · cases e
/-- a def whose new cells all stay -/
def keepF : Option Fl → Option (D × Store)
  | some (.nx _ S') => some (.non, S')
  | some (.rt d S') => some (d, S')
  | _ => none
def callFK (n : Nat) (b : DS) : DF := fun ds S => keepF (b (ds.map some ++ List.replicate (n - ds.length) none) S)
theorem fn_coreK {P : Program} {w : World} {K : PySem.W.Frag} {N : List Str} {n : Nat} {c : DS} {vs : List V} {H : Hp} {Q : VK} {E : XK} (h : spD P w K n (callFK N.length c) vs H Q E) :
    tS P w K c { nx := fun _ H' => Q .non H', rt := Q } (L2.start N vs) H := by
  obtain ⟨hn, B, S, ds, d, S', hs, r, e, k⟩ := h
  unfold callFK keepF at e
  split at e
  · rename_i ρ' S1 e1
    cases e
    exact ⟨B, _, S, _, hs, re_start r, e1, fun B' σ' H' st hs' _ => k B' _ H' st hs' RV.non⟩
  · rename_i d1 S1 e1
    cases e
    exact ⟨B, _, S, _, hs, re_start r, e1, fun B' v H' st hs' rv => k B' _ H' st hs' rv⟩
  · cases e
theorem fnDK {P : Program} {w : World} {K : PySem.W.Frag} {mg : Str → Option Value} {base : Heap} {x qual : Str} {st : Stmt} {f : Addr} {fd : FuncData} {N ps : List Str} {k : Nat} {c : DS}
    (F : FunD K x qual (defArgs st) (defBody st) (defScope st) [] [] f fd) (S : FnScope N ps (defScope st))
    (hb : ∀ (cdv : Value) (A : Around) (outer : List Env) (s : Shared) (H : Hp) (E : XK), Room k (A.deeper (envOfC qual (defScope st) s.heap.objs.size f cdv)) →
      PDSs (cxOf CX0 P w K mg base N qual (defScope st) f cdv A outer s H E).nox (defBody st) c) : FnOk P w K mg base CX0 (k + 1) f fd ps (spD P w K ps.length (callFK N.length c)) :=
  F.ok S (fun vs H Q E h => h.1) fun cdv A outer s H vs Q E hr h => ⟨tS P w K c, PSs.nox (hb cdv A outer s H E hr), fn_coreK h⟩
end DL

/-! Breadth-first search in a graph: what is known, from where, by which label. -/
namespace G
section
variable {α ε : Type} [DecidableEq α]
abbrev Came (α ε : Type) := List (α × Option (α × ε))
def keys (c : Came α ε) : List α := c.map (·.1)
def clook (c : Came α ε) (p : α) : Option (Option (α × ε)) := (c.find? fun x => decide (x.1 = p)).map (·.2)
theorem clook_none {c : Came α ε} {p : α} : clook c p = none ↔ p ∉ keys c := by
  unfold clook keys
  rw [Option.map_eq_none_iff, List.find?_eq_none]
  simp only [decide_eq_true_eq, List.mem_map, not_exists, not_and]
theorem clook_app {c d : Came α ε} {p : α} {v : Option (α × ε)} (h : clook c p = some v) : clook (c ++ d) p = some v := by
  unfold clook at h ⊢
  rw [List.find?_append]
  obtain ⟨x, hx, rfl⟩ := Option.map_eq_some_iff.mp h
  rw [hx]
  rfl
theorem clook_new {c : Came α ε} {p : α} {v : Option (α × ε)} (h : p ∉ keys c) : clook (c ++ [(p, v)]) p = some v := by
  have h0 := clook_none.mpr h
  unfold clook at h0 ⊢
  rw [Option.map_eq_none_iff] at h0
  rw [List.find?_append, h0]
  simp
theorem mem_keys_of {c : Came α ε} {p : α} {v : Option (α × ε)} (h : clook c p = some v) : p ∈ keys c := Classical.byContradiction fun z => by
  rw [clook_none.mpr z] at h
  cases h
theorem keys_app (c d : Came α ε) : keys (c ++ d) = keys c ++ keys d := List.map_append
variable (sc : α → List (ε × α))
/-- reached by so many steps -/
inductive R (st : α) : Nat → α → Prop
  | zero : R st 0 st
  | succ {k : Nat} {y q : α} {n : ε} : R st k y → (n, q) ∈ sc y → R st (k + 1) q
/-- a way by its labels -/
inductive W : α → List ε → α → Prop
  | nil (p : α) : W p [] p
  | cons {p q r : α} {n : ε} {ns : List ε} : (n, q) ∈ sc p → W q ns r → W p (n :: ns) r
variable {sc}
theorem W.snoc {p q r : α} {n : ε} {ns : List ε} (h : W sc p ns q) (e : (n, r) ∈ sc q) : W sc p (ns ++ [n]) r := by
  induction h with
  | nil p => exact .cons e (.nil _)
  | cons e' _ ih => exact .cons e' (ih e)
theorem R.trans1 {p q r : α} {n : ε} {k : Nat} (e : (n, q) ∈ sc p) (h : R sc q k r) : R sc p (k + 1) r := by
  induction h with
  | zero => exact .succ .zero e
  | succ _ e' ih => exact .succ ih e'
theorem W.r {p q : α} {ns : List ε} (h : W sc p ns q) : R sc p ns.length q := by
  induction h with
  | nil p => exact .zero
  | cons e _ ih => exact ih.trans1 e
theorem R.w {p q : α} {k : Nat} (h : R sc p k q) : ∃ ns, ns.length = k ∧ W sc p ns q := by
  induction h with
  | zero => exact ⟨[], rfl, .nil _⟩
  | succ _ e ih =>
    obtain ⟨ns, h1, h2⟩ := ih
    exact ⟨ns ++ [_], by simp [h1], h2.snoc e⟩
variable (sc)
inductive Pth (st : α) (c : Came α ε) : α → List ε → Prop
  | base : clook c st = some none → Pth st c st []
  | step {q r : α} {n : ε} {ns : List ε} : clook c r = some (some (q, n)) → (n, r) ∈ sc q → Pth st c q ns → Pth st c r (ns ++ [n])
variable {sc}
theorem Pth.w {st p : α} {c : Came α ε} {ns : List ε} (h : Pth sc st c p ns) : W sc st ns p := by
  induction h with
  | base _ => exact .nil _
  | step _ e _ ih => exact ih.snoc e
theorem Pth.app {st p : α} {c d : Came α ε} {ns : List ε} (h : Pth sc st c p ns) : Pth sc st (c ++ d) p ns := by
  induction h with
  | base e => exact .base (clook_app e)
  | step e hm _ ih => exact .step (clook_app e) hm ih
theorem Pth.key {st p : α} {c : Came α ε} {ns : List ε} (h : Pth sc st c p ns) : p ∈ keys c := by
  cases h with
  | base e => exact mem_keys_of e
  | step e _ _ => exact mem_keys_of e
/-- a step looked at -/
def stp (p : α) (x : ε × α) (st : Came α ε × List α) : Came α ε × List α := if clook st.1 x.2 = none then (st.1 ++ [(x.2, some (p, x.1))], st.2 ++ [x.2]) else st
def stpM (sc : α → List (ε × α)) (p : α) (st : Came α ε × List α) : Came α ε × List α := (sc p).foldl (fun st x => stp p x st) st
def layr (sc : α → List (ε × α)) (layer : List α) (c : Came α ε) : Came α ε × List α := layer.foldl (fun st p => stpM sc p st) (c, [])
theorem foldl_inv {α β : Type} {f : β → α → β} (P : β → Prop) : ∀ (xs : List α) (s : β), P s → (∀ x ∈ xs, ∀ s, P s → P (f s x)) → P (xs.foldl f s)
  | [], _, h, _ => h
  | x :: xs, s, h, hs => foldl_inv P xs (f s x) (hs x (by simp) s h) fun y hy => hs y (by simp [hy])
theorem foldl_done {α β : Type} {f : β → α → β} (Q : α → β → Prop) : ∀ (xs : List α) (s : β), (∀ x ∈ xs, ∀ s, Q x (f s x)) → (∀ x y s, Q x s → Q x (f s y)) → ∀ x ∈ xs, Q x (xs.foldl f s)
  | [], _, _, _ => by simp
  | y :: ys, s, h1, h2 => by
    intro x hx
    rcases List.mem_cons.mp hx with rfl | hx
    · exact foldl_inv (Q x) ys (f s x) (h1 x (by simp) s) fun z _ s h => h2 x z s h
    · exact foldl_done Q ys (f s y) (fun z hz => h1 z (by simp [hz])) h2 x hx
structure LI (sc : α → List (ε × α)) (c0 : Came α ε) (layer : List α) (st : Came α ε × List α) : Prop where
  app : ∃ d, st.1 = c0 ++ d ∧ keys d = st.2
  nd : (keys st.1).Nodup
  from_ : ∀ p ∈ st.2, ∃ q n, q ∈ layer ∧ (n, p) ∈ sc q ∧ clook st.1 p = some (some (q, n))
theorem LI.stp {c0 : Came α ε} {layer : List α} {st : Came α ε × List α} (h : LI sc c0 layer st) {q : α} {x : ε × α} (hq : q ∈ layer) (hm : x ∈ sc q) : LI sc c0 layer (stp q x st) := by
  unfold G.stp
  split
  · rename_i hn
    have hk := clook_none.mp hn
    obtain ⟨d, e1, e2⟩ := h.app
    refine ⟨⟨d ++ [(x.2, some (q, x.1))], by rw [e1, List.append_assoc], by rw [keys_app, e2]; rfl⟩, ?_, fun p hp => ?_⟩
    · show (keys (st.1 ++ [_])).Nodup
      rw [keys_app, List.nodup_append]
      refine ⟨h.nd, by simp [keys], fun y hy z hz => ?_⟩
      have : z = x.2 := by simpa [keys] using hz
      rintro rfl
      rw [this] at hy
      exact hk hy
    · rcases List.mem_append.mp hp with hp | hp
      · obtain ⟨q', n', a1, a2, a3⟩ := h.from_ p hp
        exact ⟨q', n', a1, a2, clook_app a3⟩
      · rw [List.mem_singleton.mp hp]
        exact ⟨q, x.1, hq, hm, clook_new hk⟩
  · exact h
theorem LI.stpM {c0 : Came α ε} {layer : List α} {st : Came α ε × List α} (h : LI sc c0 layer st) {q : α} (hq : q ∈ layer) : LI sc c0 layer (stpM sc q st) :=
  foldl_inv (LI sc c0 layer) _ st h fun x hx s hs => hs.stp hq hx
theorem layr_li {layer : List α} {c : Came α ε} (h : (keys c).Nodup) : LI sc c layer (layr sc layer c) := by
  refine foldl_inv (LI sc c layer) layer (c, []) ⟨⟨[], by simp, rfl⟩, h, by simp⟩ fun q hq st hst => hst.stpM hq
theorem stp_keys {p : α} {x : ε × α} {st : Came α ε × List α} {y : α} (h : y ∈ keys st.1) : y ∈ keys (stp p x st).1 := by
  unfold stp
  split
  · show y ∈ keys (st.1 ++ _)
    rw [keys_app]
    exact List.mem_append_left _ h
  · exact h
theorem stpM_keys {p : α} {st : Came α ε × List α} {y : α} (h : y ∈ keys st.1) : y ∈ keys (stpM sc p st).1 :=
  foldl_inv (fun s : Came α ε × List α => y ∈ keys s.1) _ st h fun _ _ _ hs => stp_keys hs
theorem stpM_all {q : α} {x : ε × α} (hm : x ∈ sc q) (st : Came α ε × List α) : x.2 ∈ keys (stpM sc q st).1 :=
  foldl_done (f := fun st (x : ε × α) => stp q x st) (fun (x : ε × α) (s : Came α ε × List α) => x.2 ∈ keys s.1) (sc q) st
    (fun x _ s => by
      show x.2 ∈ keys (stp q x s).1
      unfold stp
      split
      · show _ ∈ keys (s.1 ++ _)
        rw [keys_app]
        exact List.mem_append_right _ (by simp [keys])
      · rename_i hc
        exact Classical.byContradiction fun z => hc (clook_none.mpr z)) (fun x y s h => stp_keys h) x hm
theorem layr_all {layer : List α} {c : Came α ε} {q : α} (hq : q ∈ layer) {x : ε × α} (hm : x ∈ sc q) : x.2 ∈ keys (layr sc layer c).1 :=
  foldl_done (f := fun st p => stpM sc p st) (fun (q : α) (s : Came α ε × List α) => ∀ x ∈ sc q, x.2 ∈ keys s.1) layer (c, [])
    (fun q _ s x hm => stpM_all hm s) (fun x y s h z hz => stpM_keys (h z hz)) q hq x hm
/-- where the search stands before round k -/
structure BI (sc : α → List (ε × α)) (st : α) (tgt : α → Bool) (k : Nat) (c : Came α ε) (layer : List α) : Prop where
  lay : ∀ p ∈ layer, ∃ ns, ns.length = k ∧ Pth sc st c p ns
  key : ∀ p ∈ keys c, ∃ n, n ≤ k ∧ R sc st n p
  all : ∀ n x, n ≤ k → R sc st n x → x ∈ keys c
  new : ∀ n x, n < k → R sc st n x → x ∉ layer
  nd : (keys c).Nodup
  root : clook c st = some none
  old : ∀ x ∈ keys c, x ∉ layer → tgt x = false ∧ ∀ y ∈ sc x, y.2 ∈ keys c
  sub : ∀ p ∈ layer, p ∈ keys c
  ndl : layer.Nodup
theorem bi_start {st : α} {tgt : α → Bool} : BI sc st tgt 0 [(st, none)] [st] := by
  have hk : keys [(st, (none : Option (α × ε)))] = [st] := rfl
  refine ⟨fun p hp => ?_, fun p hp => ?_, fun n x hn hr => ?_, fun n x hn => by omega, by rw [hk]; simp, by simp [clook], fun x hx hn => ?_, fun p hp => by rw [hk]; exact hp, by simp⟩
  · rw [List.mem_singleton.mp hp]
    exact ⟨[], rfl, .base (by simp [clook])⟩
  · rw [hk] at hp
    rw [List.mem_singleton.mp hp]
    exact ⟨0, Nat.le_refl _, .zero⟩
  · have : n = 0 := by omega
    subst this
    cases hr
    rw [hk]
    simp
  · rw [hk] at hx
    exact absurd hx hn
theorem bi_step {st : α} {tgt : α → Bool} {k : Nat} {c : Came α ε} {layer : List α} (h : BI sc st tgt k c layer) (hn : ∀ p ∈ layer, tgt p = false) : BI sc st tgt (k + 1) (layr sc layer c).1 (layr sc layer c).2 := by
  have L := layr_li (sc := sc) (layer := layer) h.nd
  obtain ⟨d, e1, e2⟩ := L.app
  have hk : keys (layr sc layer c).1 = keys c ++ (layr sc layer c).2 := by rw [e1, keys_app, e2]
  have hnd := L.nd
  rw [hk, List.nodup_append] at hnd
  have hdis : ∀ x ∈ keys c, x ∉ (layr sc layer c).2 := fun x hx hy => hnd.2.2 x hx x hy rfl
  refine ⟨fun p hp => ?_, fun p hp => ?_, fun n x hnk hr => ?_, fun n x hnk hr => ?_, L.nd, by rw [e1]; exact clook_app h.root, fun x hx hxn => ?_, fun p hp => by rw [hk]; exact List.mem_append_right _ hp, hnd.2.1⟩
  · obtain ⟨q, n, a1, a2, a5⟩ := L.from_ p hp
    obtain ⟨ns, hl, hp'⟩ := h.lay q a1
    refine ⟨ns ++ [n], by simp [hl], .step a5 a2 ?_⟩
    rw [e1]
    exact hp'.app
  · rw [hk] at hp
    rcases List.mem_append.mp hp with hp | hp
    · obtain ⟨n, h1, h2⟩ := h.key p hp
      exact ⟨n, by omega, h2⟩
    · obtain ⟨q, n, a1, a2, a5⟩ := L.from_ p hp
      obtain ⟨ns, hl, hp'⟩ := h.lay q a1
      refine ⟨k + 1, Nat.le_refl _, .succ ?_ a2⟩
      rw [← hl]
      exact hp'.w.r
  · by_cases hle : n ≤ k
    · rw [hk]
      exact List.mem_append_left _ (h.all n x hle hr)
    · have : n = k + 1 := by omega
      subst this
      cases hr with
      | @succ _ y _ i hr hm =>
        have hy := h.all k y (Nat.le_refl _) hr
        by_cases hyl : y ∈ layer
        · exact layr_all hyl hm
        · rw [hk]
          exact List.mem_append_left _ ((h.old y hy hyl).2 _ hm)
  · exact hdis x (h.all n x (by omega) hr)
  · rw [hk] at hx
    rcases List.mem_append.mp hx with hx | hx
    · by_cases hxl : x ∈ layer
      · exact ⟨hn x hxl, fun y hm => layr_all hxl hm⟩
      · obtain ⟨o1, o2⟩ := h.old x hx hxl
        refine ⟨o1, fun y hm => ?_⟩
        rw [hk]
        exact List.mem_append_left _ (o2 y hm)
    · exact absurd hx hxn
/-- nothing was found before round k -/
theorem BI.before {st : α} {tgt : α → Bool} {k : Nat} {c : Came α ε} {layer : List α} (h : BI sc st tgt k c layer) {n : Nat} {x : α} (hn : n < k) (hr : R sc st n x) : tgt x = false :=
  (h.old x (h.all n x (by omega) hr) (h.new n x hn hr)).1
/-- nothing is left -/
theorem BI.closed {st : α} {tgt : α → Bool} {k : Nat} {c : Came α ε} (h : BI sc st tgt k c []) {n : Nat} {x : α} (hr : R sc st n x) : x ∈ keys c ∧ tgt x = false := by
  have hx : x ∈ keys c := by
    induction hr with
    | zero => exact mem_keys_of h.root
    | succ _ e ih => exact (h.old _ ih (by simp)).2 _ e
  exact ⟨hx, (h.old x hx (by simp)).1⟩
theorem nodup_le {α : Type} [DecidableEq α] : ∀ (l U : List α), l.Nodup → (∀ x ∈ l, x ∈ U) → l.length ≤ U.length
  | [], _, _, _ => by simp
  | x :: l, U, hn, hs => by
    rw [List.nodup_cons] at hn
    have hx := hs x (by simp)
    have := nodup_le l (U.erase x) hn.2 fun y hy => by
      have hne : y ≠ x := fun e => hn.1 (e ▸ hy)
      exact (List.mem_erase_of_ne hne).mpr (hs y (by simp [hy]))
    rw [List.length_erase_of_mem hx] at this
    have := List.length_pos_of_mem hx
    simp only [List.length_cons]
    omega
theorem stp_len {p : α} {x : ε × α} {st : Came α ε × List α} : (stp p x st).1.length ≤ st.1.length + 1 ∧ (stp p x st).2.length ≤ st.2.length + 1 := by
  unfold stp
  split <;> simp
theorem stpl_len {p : α} : ∀ (l : List (ε × α)) (st : Came α ε × List α), (l.foldl (fun st x => stp p x st) st).1.length ≤ st.1.length + l.length ∧ (l.foldl (fun st x => stp p x st) st).2.length ≤ st.2.length + l.length
  | [], st => by simp
  | x :: l, st => by
    have h1 := stpl_len (p := p) l (stp p x st)
    have h2 := stp_len (p := p) (x := x) (st := st)
    simp only [List.foldl_cons, List.length_cons]
    omega
theorem stpM_len {p : α} (st : Came α ε × List α) : (stpM sc p st).1.length ≤ st.1.length + (sc p).length ∧ (stpM sc p st).2.length ≤ st.2.length + (sc p).length := stpl_len (sc p) st
theorem layr_len {layer : List α} {m : Nat} (hm : ∀ p ∈ layer, (sc p).length ≤ m) : ∀ (st : Came α ε × List α), (layer.foldl (fun st p => stpM sc p st) st).1.length ≤ st.1.length + layer.length * m ∧ (layer.foldl (fun st p => stpM sc p st) st).2.length ≤ st.2.length + layer.length * m := by
  induction layer with
  | nil => intro st; simp
  | cons p layer ih =>
    intro st
    have h1 := ih (fun q hq => hm q (by simp [hq])) (stpM sc p st)
    have h2 := stpM_len (sc := sc) (p := p) st
    have h3 := hm p (by simp)
    have h4 : (layer.length + 1) * m = layer.length * m + m := by rw [Nat.succ_mul]
    simp only [List.foldl_cons, List.length_cons, h4]
    omega
end
end G

/-! Books, levels, places as data. -/
namespace BK
open PySem PySem.Spec PyProof.Rows L2 DL

abbrev Lv := List Int
structure Mv where
  w : Str
  p : Lv
  to : Nat
structure Bk where
  T : Nat
  sts : List (Str × List Mv)
abbrev Plc := Nat × Lv
def eL (l : Lv) : D := .tup (l.map .int)
def eM (m : Mv) : D := .tup [.str m.w, eL m.p, .int m.to]
def eS (s : Str × List Mv) : D := .tup [.str s.1, .tup (s.2.map eM)]
def eB (b : Bk) : D := .tup [.int b.T, .tup (b.sts.map eS)]
def eP (p : Plc) : D := .tup [.int p.1, eL p.2]
def eN (ns : List Nat) : D := .tup (ns.map fun n => .int (n : Nat))
def mvs (b : Bk) (s : Nat) : List Mv := match b.sts[s]? with
  | some x => x.2
  | none => []
def own (b : Bk) (s : Nat) : Str := match b.sts[s]? with
  | some x => x.1
  | none => ""
def add (l p : Lv) : Lv := List.zipWith (· + ·) l p
def dry (l : Lv) : Bool := l.any fun x => decide (x < 0)
def geB (a b : Lv) : Bool := (a.zip b).all fun q => decide (q.2 ≤ q.1)
structure WB (b : Bk) : Prop where
  t1 : 1 ≤ b.T
  t2 : b.T ≤ 100
  n : b.sts.length ≤ 1000
  m : ∀ s ∈ b.sts, s.2.length ≤ 1000
  p : ∀ s ∈ b.sts, ∀ m ∈ s.2, m.p.length = b.T
  to : ∀ s ∈ b.sts, ∀ m ∈ s.2, m.to < b.sts.length
  ow : ∀ s ∈ b.sts, s.1 = "house" ∨ s.1 = "outside"
theorem small {n : Nat} (h : n ≤ 100000) : n ≤ sizeLine := by rw [sizeLine_eq]; omega
theorem below_eL (l : Lv) : below 0 (eL l) = true := belows_map fun _ _ => rfl
theorem below_eN (ns : List Nat) : below 0 (eN ns) = true := belows_map fun _ _ => rfl
theorem below_eP (p : Plc) : below 0 (eP p) = true := by simp only [eP, below, belows, below_eL, Bool.and_self]
theorem below_eM (m : Mv) : below 0 (eM m) = true := by simp only [eM, below, belows, below_eL, Bool.and_self]
theorem below_mvs (ms : List Mv) : below 0 (.tup (ms.map eM)) = true := belows_map fun _ _ => below_eM _
theorem below_eS (s : Str × List Mv) : below 0 (eS s) = true := by
  simp only [eS, below, belows, Bool.and_self, Bool.and_true, Bool.true_and]
  exact below_mvs _
theorem below_eB (b : Bk) : below 0 (eB b) = true := by
  have h : belows 0 (b.sts.map eS) = true := belows_map fun _ _ => below_eS _
  simp only [eB, below, belows, h, Bool.and_self]
theorem below_Ls (ls : List Lv) : below 0 (.tup (ls.map eL)) = true := belows_map fun _ _ => below_eL _
theorem mvs_at {b : Bk} {s : Nat} (h : s < b.sts.length) : ∃ x, b.sts[s]? = some x ∧ mvs b s = x.2 ∧ own b s = x.1 := by
  refine ⟨b.sts[s], by simp [h], ?_, ?_⟩
  · simp [mvs, h]
  · simp [own, h]
theorem mvs_mem {b : Bk} {s : Nat} {m : Mv} (h : m ∈ mvs b s) : ∃ x ∈ b.sts, m ∈ x.2 := by
  unfold mvs at h
  split at h
  · rename_i x hx
    exact ⟨x, List.mem_of_getElem? hx, h⟩
  · simp at h
theorem WB.ml {b : Bk} (W : WB b) (s : Nat) : (mvs b s).length ≤ 1000 := by
  unfold mvs
  split
  · rename_i x hx
    exact W.m x (List.mem_of_getElem? hx)
  · simp
theorem WB.mp {b : Bk} (W : WB b) {s : Nat} {m : Mv} (h : m ∈ mvs b s) : m.p.length = b.T := let ⟨x, h1, h2⟩ := mvs_mem h; W.p x h1 m h2
theorem WB.mt {b : Bk} (W : WB b) {s : Nat} {m : Mv} (h : m ∈ mvs b s) : m.to < b.sts.length := let ⟨x, h1, h2⟩ := mvs_mem h; W.to x h1 m h2
theorem WB.o {b : Bk} (W : WB b) {s : Nat} (h : s < b.sts.length) : own b s = "house" ∨ own b s = "outside" := by
  obtain ⟨x, h1, _, h3⟩ := mvs_at h
  rw [h3]
  exact W.ow x (List.mem_of_getElem? h1)
theorem st_lt {b : Bk} {s n : Nat} {m : Mv} (h : (mvs b s)[n]? = some m) : s < b.sts.length := by
  unfold mvs at h
  split at h
  · rename_i x hx
    exact (List.getElem?_eq_some_iff.mp hx).1
  · simp at h
theorem add_len {l p : Lv} (h : p.length = l.length) : (add l p).length = l.length := by simp [add, h]
theorem set_end {α : Type} {S : List α} {c d : α} : (S ++ [c]).set S.length d = S ++ [d] := by simp
theorem zip_int : ∀ (a b : Lv), ((a.map D.int).zip (b.map D.int)).map (fun p => D.tup [p.1, p.2]) = (a.zip b).map fun p => D.tup [.int p.1, .int p.2]
  | [], _ => rfl
  | _ :: _, [] => rfl
  | x :: a, y :: b => by simp [zip_int a b]
theorem zipWith_eq {β : Type} (f : Int → Int → β) : ∀ (a b : Lv), (a.zip b).map (fun p => f p.1 p.2) = List.zipWith f a b
  | [], _ => rfl
  | _ :: _, [] => rfl
  | x :: a, y :: b => by simp [zipWith_eq f a b]
theorem pow62 : (1000000 : Int) < 2 ^ 62 := by decide +kernel
theorem npow62 : -(2 ^ 62) ≤ (0 : Int) := by decide +kernel
theorem inR1_nat {n : Nat} (hn : n ≤ 1000000) : inR1 (n : Int) := by
  have h1 : (0 : Int) ≤ (n : Int) := Int.natCast_nonneg n
  have h2 : (n : Int) ≤ 1000000 := by omega
  exact ⟨Int.le_trans npow62 h1, Int.lt_of_le_of_lt h2 pow62⟩
theorem rng1 {c : DE} {ρ : Env'} {S S' : Store} {n : Nat} (h : c ρ S = some (.int n, S')) (hn : n ≤ 1000000) : cRng1 c ρ S = some (((List.range n).map (fun i => D.int (i : Nat)), none), S') := by
  unfold cRng1
  rw [h]
  simp only
  rw [if_pos (inR1_nat hn)]
  show some (itRange 0 n, S') = _
  unfold itRange
  simp only [Int.zero_add]
theorem inR2_nat {a n : Nat} (ha : a ≤ 1000000) (hn : n ≤ 1000000) : inR2 (a : Int) (n : Int) := ⟨(inR1_nat ha).1, (inR1_nat ha).2, (inR1_nat hn).1, (inR1_nat hn).2⟩
theorem rng2 {c d : DE} {ρ : Env'} {S S' S'' : Store} {a n : Nat} (h : c ρ S = some (.int a, S')) (h' : d ρ S' = some (.int n, S'')) (ha : a ≤ 1000000) (hn : n ≤ 1000000) : cRng2 c d ρ S = some (((List.range (n - a)).map (fun i => D.int ((a + i : Nat) : Int)), none), S'') := by
  unfold cRng2
  rw [h]
  simp only
  rw [h']
  simp only
  rw [if_pos (inR2_nat ha hn)]
  have e : ((n : Int) - (a : Int)).toNat = n - a := by omega
  rw [e]
  unfold itRange
  simp
theorem inRg_nat {n : Nat} (hn : n ≤ 1000000) : inRg 0 (n : Int) := RgOk.of_le (by omega) (by omega) (by omega) (by omega)
theorem lrg {bx : Bool} {c : DE} {ρ : Env'} {S S' : Store} {n : Nat} (h : c ρ S = some (.int n, S')) (hn : n ≤ 1000000) : cListRg bx (cC (.int 0)) c ρ S = (if bx = true then some (.ref S'.length, S' ++ [.lst ((List.range n).map fun i => D.int (i : Nat))]) else some (.lst ((List.range n).map fun i => D.int (i : Nat)), S')) := by
  unfold cListRg
  simp only [cC]
  rw [h]
  simp only
  rw [if_pos (inRg_nat hn)]
  have e : ((n : Int) - 0).toNat = n := by omega
  rw [e]
  unfold itRange
  simp only [Int.zero_add]
theorem k_ii : kitB "int" "int" = some true := by decide +kernel
theorem k_ib : kitB "int" "bool" = some false := by decide +kernel
theorem k_bb : kitB "bool" "bool" = some true := by decide +kernel
theorem k_bi : kitB "bool" "int" = some true := by decide +kernel
theorem k_tt : kitB "tuple" "tuple" = some true := by decide +kernel
theorem k_it : kitB "int" "tuple" = some false := by decide +kernel
theorem k_ti : kitB "tuple" "int" = some false := by decide +kernel
theorem k_tb : kitB "tuple" "bool" = some false := by decide +kernel
theorem k_bt : kitB "bool" "tuple" = some false := by decide +kernel
theorem k_nt : kitB "NoneType" "tuple" = some false := by decide +kernel
theorem k_ni : kitB "NoneType" "int" = some false := by decide +kernel
theorem k_nb : kitB "NoneType" "bool" = some false := by decide +kernel
theorem k_ss : kitB "str" "str" = some true := by decide +kernel
theorem k_st : kitB "str" "tuple" = some false := by decide +kernel
theorem k_sb : kitB "str" "bool" = some false := by decide +kernel
theorem k_si : kitB "str" "int" = some false := by decide +kernel
theorem k_ts : kitB "tuple" "str" = some false := by decide +kernel
theorem k_is : kitB "int" "str" = some false := by decide +kernel
theorem ixTU {xs : List D} {i : Int} {S : Store} : ixD (.tup xs) (.int i) S = (L2.atI xs i).map fun d => (d, S) := rfl
theorem ixLS {xs : List D} {i : Int} {S : Store} : ixD (.lst xs) (.int i) S = (L2.atI xs i).map fun d => (d, S) := rfl
theorem ixB0 {b : Bk} {S : Store} : ixD (eB b) (.int 0) S = some (.int b.T, S) := rfl
theorem ixB1 {b : Bk} {S : Store} : ixD (eB b) (.int 1) S = some (.tup (b.sts.map eS), S) := rfl
theorem ixM1 {m : Mv} {S : Store} : ixD (eM m) (.int 1) S = some (eL m.p, S) := rfl
theorem ixM2 {m : Mv} {S : Store} : ixD (eM m) (.int 2) S = some (.int m.to, S) := rfl
theorem ixP0 {p : Plc} {S : Store} : ixD (eP p) (.int 0) S = some (.int p.1, S) := rfl
theorem ixP1 {p : Plc} {S : Store} : ixD (eP p) (.int 1) S = some (eL p.2, S) := rfl
theorem ixS0 {s : Str × List Mv} {S : Store} : ixD (eS s) (.int 0) S = some (.str s.1, S) := rfl
theorem ixS1 {s : Str × List Mv} {S : Store} : ixD (eS s) (.int 1) S = some (.tup (s.2.map eM), S) := rfl
theorem ixT {α : Type} {f : α → D} {xs : List α} {n : Nat} {x : α} (h : xs[n]? = some x) {S : Store} : ixD (.tup (xs.map f)) (.int n) S = some (f x, S) := by
  rw [ixTU, atI_nat (v := f x) (by rw [List.getElem?_map, h]; rfl)]
  rfl
theorem ixSt {b : Bk} {s : Nat} (h : s < b.sts.length) : ∃ x, (∀ S : Store, ixD (.tup (b.sts.map eS)) (.int s) S = some (eS x, S)) ∧ mvs b s = x.2 ∧ own b s = x.1 := by
  obtain ⟨x, hx, hm⟩ := mvs_at h
  exact ⟨x, fun S => ixT hx, hm⟩
theorem ixMs {ms : List Mv} {n : Nat} {m : Mv} (h : ms[n]? = some m) {S : Store} : ixD (.tup (ms.map eM)) (.int n) S = some (eM m, S) := ixT h
theorem ixN' {ns : List Nat} {n k : Nat} (h : ns[n]? = some k) {S : Store} : ixD (eN ns) (.int n) S = some (.int k, S) := ixT (f := fun n : Nat => D.int (n : Nat)) h
theorem lenT {xs : List D} {S : Store} : lenD [.tup xs] S = some (.int xs.length, S) := rfl
abbrev gt (l : Lv) (t : Nat) : Int := l.getD t 0
theorem ixL {l : Lv} {t : Nat} (h : t < l.length) {S : Store} : ixD (eL l) (.int t) S = some (.int (gt l t), S) := by
  have e : (l.map D.int)[t]? = some (.int (gt l t)) := by
    rw [List.getElem?_map, List.getElem?_eq_getElem h]
    simp [gt, List.getD, h]
  show ixD (.tup (l.map D.int)) (.int t) S = _
  rw [ixTU, atI_nat e]
  rfl
theorem eL_len {l : Lv} {S : Store} : lenD [eL l] S = some (.int l.length, S) := by simp [lenD, eL]
theorem tcol {T : Nat} {l p : Lv} {t : Nat} (hl : l.length = T) (hp : p.length = T) (ht : t < T) : gt (add l p) t = gt l t + gt p t := by
  have h1 : t < l.length := by omega
  have h2 : t < p.length := by omega
  simp [gt, add, List.getD, List.getElem?_zipWith, h1, h2]
theorem ext_map {T : Nat} {v : Lv} {f : Nat → Int} (hl : v.length = T) (h : ∀ t, t < T → f t = gt v t) : (List.range T).map (fun t => D.int (f t)) = v.map D.int := by
  refine List.ext_getElem? fun t => ?_
  rw [List.getElem?_map, List.getElem?_map]
  by_cases ht : t < T
  · rw [List.getElem?_range ht, List.getElem?_eq_getElem (by omega)]
    simp only [Option.map_some]
    rw [h t ht]
    simp [gt, List.getD, hl, ht]
  · rw [List.getElem?_eq_none (by simpa using ht), List.getElem?_eq_none (by omega)]
    rfl
theorem add_map {T : Nat} {l p : Lv} (hl : l.length = T) (hp : p.length = T) : (List.range T).map (fun t => D.int (gt l t + gt p t)) = (add l p).map D.int :=
  ext_map (by simp [add, hl, hp]) fun t ht => (tcol hl hp ht).symm
theorem lv_ext {a b : Lv} (h : a.length = b.length) (h2 : ∀ t, t < a.length → gt a t = gt b t) : a = b := by
  refine List.ext_getElem? fun t => ?_
  by_cases ht : t < a.length
  · have := h2 t ht
    have hb : t < b.length := by omega
    rw [List.getElem?_eq_getElem ht, List.getElem?_eq_getElem hb]
    simpa [gt, List.getD, ht, hb] using this
  · rw [List.getElem?_eq_none (by omega), List.getElem?_eq_none (by omega)]
theorem dry_iff {l : Lv} : dry l = true ↔ ∃ t, t < l.length ∧ gt l t < 0 := by
  unfold dry
  rw [List.any_eq_true]
  constructor
  · rintro ⟨x, hx, h⟩
    obtain ⟨t, ht, rfl⟩ := List.mem_iff_getElem.mp hx
    exact ⟨t, ht, by simpa [gt, List.getD, ht] using h⟩
  · rintro ⟨t, ht, h⟩
    exact ⟨l[t], List.getElem_mem ht, by simpa [gt, List.getD, ht] using h⟩
theorem dry_false {l : Lv} : dry l = false ↔ ∀ t, t < l.length → 0 ≤ gt l t := by
  rw [← Bool.not_eq_true, dry_iff]
  constructor
  · intro h t ht
    exact Classical.byContradiction fun z => h ⟨t, ht, by omega⟩
  · rintro h ⟨t, ht, z⟩
    have := h t ht
    omega
theorem cCons1 {a : DE} {ρ : Env'} {S S1 : Store} {x : D} (h : a ρ S = some (x, S1)) : cCons a cNil ρ S = some ([x], S1) := by simp only [cCons, cNil, h]
theorem enum_map {α : Type} (f : α → D) : ∀ (k : Nat) (l : List α), enumFrom k (l.map f) = (l.zipIdx k).map fun p => .tup [.int (p.2 : Nat), f p.1]
  | _, [] => rfl
  | k, x :: l => by simp [enumFrom, enum_map f (k + 1) l, List.zipIdx_cons]
theorem rng_at {n j k : Nat} {ks : List Nat} (h : k :: ks = List.range' j (n - j)) (hj : j ≤ n) : k = j ∧ j < n ∧ ks = List.range' (j + 1) (n - (j + 1)) := by
  cases e : n - j with
  | zero => rw [e] at h; simp at h
  | succ m =>
    rw [e, List.range'_succ] at h
    cases h
    refine ⟨rfl, by omega, ?_⟩
    congr 1
    omega
theorem rng_end {n j : Nat} (h : ([] : List Nat) = List.range' j (n - j)) (hj : j ≤ n) : j = n := by
  have := congrArg List.length h
  simp at this
  omega
theorem zip_mem {α : Type} {l : List α} {x : α × Nat} (h : x ∈ l.zipIdx) : l[x.2]? = some x.1 := by
  obtain ⟨i, hi⟩ := List.mem_iff_getElem?.mp h
  rw [List.getElem?_zipIdx] at hi
  obtain ⟨y, h1, h2⟩ := Option.map_eq_some_iff.mp hi
  subst h2
  simpa using h1
theorem mem_zip {α : Type} {l : List α} {n : Nat} {x : α} (h : l[n]? = some x) : (x, n) ∈ l.zipIdx := by
  refine List.mem_iff_getElem?.mpr ⟨n, ?_⟩
  rw [List.getElem?_zipIdx, h]
  simp

/-! ### min, max, sum of levels -/
theorem minL_dry : ∀ {l : Lv}, l ≠ [] → (minL l < 0 ↔ dry l = true) := fun {l} h => by
  obtain ⟨h1, h2⟩ := minL_spec h
  unfold dry
  rw [List.any_eq_true]
  constructor
  · intro z
    exact ⟨_, h1, by simpa using z⟩
  · rintro ⟨x, hx, z⟩
    have := h2 x hx
    have z' : x < 0 := by simpa using z
    omega
theorem min_eL {l : Lv} (h : l ≠ []) {S : Store} : min2D [eL l] S = some (.int (minL l), S) := by
  have e : asInts (l.map D.int) = some l := by
    have := asInts_map (fun x : Int => x) l
    simpa using this
  simp only [eL, min2D, e, if_neg h]
theorem sum_eL {l : Lv} {S : Store} : sum3D [eL l] S = some (.int l.sum, S) := by
  have e : asInts (l.map D.int) = some l := by
    have := asInts_map (fun x : Int => x) l
    simpa using this
  simp only [eL, sum3D, e]

/-! ### places as keys -/
abbrev Came := G.Came Plc Nat
def eV : Option (Plc × Nat) → D
  | none => .non
  | some (q, n) => .tup [eP q, .int (n : Nat)]
def eC (c : Came) : List (D × D) := c.map fun x => (eP x.1, eV x.2)
/-- places alone, each with True -/
def eK (ps : List Plc) : List (D × D) := ps.map fun x => (eP x, .bl true)
theorem keyDs_int : ∀ l : Lv, keyDs (l.map D.int) = l.map NestedKey.num
  | [] => rfl
  | x :: l => by simp only [List.map_cons, keyDs, keyD, keyDs_int l]
theorem keyD_eL (l : Lv) : keyD (eL l) = .tup (l.map NestedKey.num) := by
  show NestedKey.tup (keyDs (l.map D.int)) = _
  rw [keyDs_int]
theorem keyD_eP (p : Plc) : keyD (eP p) = .tup [.num p.1, .tup (p.2.map NestedKey.num)] := by
  simp only [eP, keyD, keyDs, keyD_eL]
theorem num_inj : ∀ {a c : Lv}, a.map NestedKey.num = c.map NestedKey.num → a = c
  | [], [], _ => rfl
  | [], _ :: _, h => by simp at h
  | _ :: _, [], h => by simp at h
  | x :: a, y :: c, h => by
    simp only [List.map_cons, List.cons.injEq, NestedKey.num.injEq] at h
    rw [h.1, num_inj h.2]
theorem keyP_inj {p q : Plc} : keyD (eP p) = keyD (eP q) ↔ p = q := by
  refine ⟨fun h => ?_, fun h => by rw [h]⟩
  rw [keyD_eP, keyD_eP] at h
  simp only [NestedKey.tup.injEq, List.cons.injEq, NestedKey.num.injEq, and_true] at h
  obtain ⟨h1, h2⟩ := h
  have h3 := num_inj h2
  exact Prod.ext (by omega) h3
theorem okKeys_int : ∀ l : Lv, okKeys (l.map D.int) = true
  | [] => rfl
  | x :: l => by simp only [List.map_cons, okKeys, okKey, okKeys_int l, Bool.and_self]
theorem depth_num : ∀ l : Lv, NestedKey.depthAll (l.map NestedKey.num) = 0
  | [] => rfl
  | x :: l => by simp [NestedKey.depthAll, NestedKey.depth, depth_num l]
theorem okTup_eP (p : Plc) : okTup (eP p) = true := by
  have h1 : okKeys [D.int (p.1 : Nat), eL p.2] = true := by
    have : okKey (eL p.2) = true := okKeys_int p.2
    simp only [okKeys, okKey, this, Bool.and_self]
  have h2 : (keyD (.tup [D.int (p.1 : Nat), eL p.2])).depth ≤ 8 := by
    have := keyD_eP p
    unfold eP at this
    rw [this]
    simp [NestedKey.depth, NestedKey.depthAll, depth_num]
  unfold eP okTup
  simp only [h1, h2, decide_true, Bool.and_self]
theorem dLook_eC (p : Plc) : ∀ c : Came, dLook (eC c) (eP p) = (G.clook c p).map eV
  | [] => rfl
  | x :: c => by
    have ih := dLook_eC p c
    by_cases h : x.1 = p
    · have h' : keyD (eP x.1) = keyD (eP p) := keyP_inj.mpr h
      simp [eC, dLook, G.clook, h, h']
    · have h' : ¬ keyD (eP x.1) = keyD (eP p) := fun z => h (keyP_inj.mp z)
      have e1 : dLook (eC (x :: c)) (eP p) = dLook (eC c) (eP p) := by simp [eC, dLook, List.find?_cons, h']
      have e2 : G.clook (x :: c) p = G.clook c p := by simp [G.clook, List.find?_cons, h]
      rw [e1, e2, ih]
theorem dPut_eC {p : Plc} {v : Option (Plc × Nat)} {c : Came} (h : G.clook c p = none) : dPut (eC c) (eP p) (eV v) = eC (c ++ [(p, v)]) := by
  unfold dPut
  rw [dLook_eC, h]
  simp [eC]
theorem dLook_eK (p : Plc) : ∀ c : List Plc, dLook (eK c) (eP p) = if p ∈ c then some (.bl true) else none
  | [] => rfl
  | x :: c => by
    have ih := dLook_eK p c
    by_cases h : x = p
    · have h' : keyD (eP x) = keyD (eP p) := keyP_inj.mpr h
      simp [eK, dLook, h, h']
    · have h' : ¬ keyD (eP x) = keyD (eP p) := fun z => h (keyP_inj.mp z)
      have e1 : dLook (eK (x :: c)) (eP p) = dLook (eK c) (eP p) := by simp [eK, dLook, List.find?_cons, h']
      rw [e1, ih]
      simp [show ¬ p = x from fun z => h z.symm]
theorem dPut_eK {p : Plc} {c : List Plc} (h : p ∉ c) : dPut (eK c) (eP p) (.bl true) = eK (c ++ [p]) := by
  unfold dPut
  rw [dLook_eK, if_neg h]
  simp [eK]
theorem below_eV (v : Option (Plc × Nat)) : below 0 (eV v) = true := by
  cases v with
  | none => rfl
  | some x => simp only [eV, below, belows, below_eP, Bool.and_self]
theorem cell_eC {n : Nat} (c : Came) : cellBelow n (.dN false (eC c)) := by
  intro p hp
  obtain ⟨x, _, rfl⟩ := List.mem_map.mp hp
  exact ⟨below_mono (Nat.zero_le _) _ (below_eP _), below_mono (Nat.zero_le _) _ (below_eV _)⟩
theorem lookN {S : Store} {k : Nat} {lk : Bool} {c : Came} {p : Plc} (h : S[k]? = some (.dN lk (eC c))) : lookD S (.ref k) (eP p) = some ((G.clook c p).map eV) := by
  simp only [lookD, h, okTup_eP, if_true, dLook_eC]
theorem lookKK {S : Store} {k : Nat} {lk : Bool} {c : List Plc} {p : Plc} (h : S[k]? = some (.dN lk (eK c))) : lookD S (.ref k) (eP p) = some (if p ∈ c then some (.bl true) else none) := by
  simp only [lookD, h, okTup_eP, if_true, dLook_eK]
end BK

/-! A law's spool: a dict with what is drawn. -/
namespace BK
open PySem PySem.Spec PyProof.Rows L2 DL

abbrev Hab := List (Str × Int × Int)
def eH (hb : Hab) : List (Key × D) := hb.map fun x => (.inr x.1, .lst [.int x.2.1, .int x.2.2])
def spB (p x : Int) : List (Key × D) := [(.inr "figures", .ref 0), (.inr "place", .int p), (.inr "mix", .int x)]
def spC (p x : Int) (hb : Hab) : Cell := .dK false (spB p x ++ eH hb)
def habits : List Str := ["pour", "order", "level", "size", "first", "gain", "chance", "height", "weight", "rest", "start"]
abbrev spN (n : Str) : Prop := n ∈ habits
/-- a spool at cell 1, its figures at cell 0 -/
structure Sp (F c : Cell) : Prop where
  ex : ∃ (figs : List Int) (p x : Int) (hb : Hab), F = .lst (figs.map .int) ∧ (∀ y ∈ figs, 0 ≤ y) ∧ c = spC p x hb ∧ 0 ≤ p ∧ 0 ≤ x ∧ (hb.map (·.1)).Nodup ∧ (∀ y ∈ hb, spN y.1 ∧ 0 ≤ y.2.1 ∧ 0 ≤ y.2.2)
theorem ints_inj : ∀ {a b : List Int}, a.map D.int = b.map D.int → a = b
  | [], [], _ => rfl
  | [], _ :: _, h => by simp at h
  | _ :: _, [], h => by simp at h
  | x :: a, y :: b, h => by
    simp only [List.map_cons, List.cons.injEq, D.int.injEq] at h
    rw [h.1, ints_inj h.2]
theorem n1 : ¬ ("figures" : Str) = "place" := by decide +kernel
theorem n2 : ¬ ("figures" : Str) = "mix" := by decide +kernel
theorem n3 : ¬ ("place" : Str) = "mix" := by decide +kernel
theorem n3' : ¬ ("mix" : Str) = "place" := by decide +kernel
theorem hab_ne {n : Str} (h : spN n) : n ≠ "figures" ∧ n ≠ "place" ∧ n ≠ "mix" := by
  have : ∀ m ∈ habits, m ≠ "figures" ∧ m ≠ "place" ∧ m ≠ "mix" := by decide +kernel
  exact this n h
theorem hab_len {hb : Hab} (h1 : (hb.map (·.1)).Nodup) (h2 : ∀ y ∈ hb, spN y.1) : hb.length ≤ 11 := by
  have := G.nodup_le (hb.map (·.1)) habits h1 fun x hx => by
    obtain ⟨y, hy, rfl⟩ := List.mem_map.mp hx
    exact h2 y hy
  simpa [habits] using this
theorem kF {p x : Int} {hb : Hab} : kLook (spB p x ++ eH hb) (.inr "figures") = some (.ref 0) := by
  simp [kLook, spB]
theorem kP {p x : Int} {hb : Hab} : kLook (spB p x ++ eH hb) (.inr "place") = some (.int p) := by
  simp [kLook, spB, n1]
theorem kM {p x : Int} {hb : Hab} : kLook (spB p x ++ eH hb) (.inr "mix") = some (.int x) := by
  simp [kLook, spB, n2, n3]
theorem eH_ne {n : Str} (h : n = "figures" ∨ n = "place" ∨ n = "mix") {hb : Hab} (hn : ∀ y ∈ hb, spN y.1) : ∀ y ∈ eH hb, ¬ y.1 = .inr n := by
  intro y hy z
  obtain ⟨u, hu, rfl⟩ := List.mem_map.mp hy
  have e : u.1 = n := by injection z
  obtain ⟨h1, h2, h3⟩ := hab_ne (hn u hu)
  rcases h with rfl | rfl | rfl
  · exact h1 e
  · exact h2 e
  · exact h3 e
theorem map_id_of {l : List (Key × D)} {k : Key} {v : D} (h : ∀ y ∈ l, ¬ y.1 = k) : l.map (fun kv => if kv.1 = k then (kv.1, v) else kv) = l := by
  conv => rhs; rw [← List.map_id l]
  refine List.map_congr_left fun y hy => ?_
  rw [if_neg (h y hy)]
  rfl
theorem pP {p x q : Int} {hb : Hab} (hn : ∀ y ∈ hb, spN y.1) : kPut (spB p x ++ eH hb) (.inr "place") (.int q) = spB q x ++ eH hb := by
  unfold kPut
  rw [if_pos (by simp [spB]), List.map_append, map_id_of (eH_ne (.inr (.inl rfl)) hn)]
  simp [spB, n1, n3']
theorem pM {p x q : Int} {hb : Hab} (hn : ∀ y ∈ hb, spN y.1) : kPut (spB p x ++ eH hb) (.inr "mix") (.int q) = spB p q ++ eH hb := by
  unfold kPut
  rw [if_pos (by simp [spB]), List.map_append, map_id_of (eH_ne (.inr (.inr rfl)) hn)]
  simp [spB, n2, n3]
theorem spB_none {p x : Int} {n : Str} (h : spN n) : (spB p x).find? (fun kv => decide (kv.1 = .inr n)) = none := by
  obtain ⟨h1, h2, h3⟩ := hab_ne h
  have e1 : ¬ (Sum.inr "figures" : Key) = Sum.inr n := fun z => h1 (by injection z with z; exact z.symm)
  have e2 : ¬ (Sum.inr "place" : Key) = Sum.inr n := fun z => h2 (by injection z with z; exact z.symm)
  have e3 : ¬ (Sum.inr "mix" : Key) = Sum.inr n := fun z => h3 (by injection z with z; exact z.symm)
  simp [spB, e1, e2, e3]
theorem kH {p x : Int} {n : Str} (h : spN n) {hb : Hab} : kLook (spB p x ++ eH hb) (.inr n) = kLook (eH hb) (.inr n) := by
  unfold kLook
  rw [List.find?_append, spB_none h]
  rfl
theorem kH_some {n : Str} {hb : Hab} {d : D} (h : kLook (eH hb) (.inr n) = some d) : ∃ y ∈ hb, d = .lst [.int y.2.1, .int y.2.2] := by
  unfold kLook at h
  obtain ⟨z, hz, rfl⟩ := Option.map_eq_some_iff.mp h
  obtain ⟨y, hy, rfl⟩ := List.mem_map.mp (List.mem_of_find?_eq_some hz)
  exact ⟨y, hy, rfl⟩
theorem kH_none {n : Str} {hb : Hab} (h : kLook (eH hb) (.inr n) = none) : n ∉ hb.map (·.1) := by
  unfold kLook at h
  rw [Option.map_eq_none_iff, List.find?_eq_none] at h
  intro z
  obtain ⟨y, hy, rfl⟩ := List.mem_map.mp z
  have := h _ (List.mem_map.mpr ⟨y, hy, rfl⟩)
  simp at this
theorem pH {p x a b : Int} {n : Str} {hb : Hab} (h : spN n) (hn : kLook (eH hb) (.inr n) = none) : kPut (spB p x ++ eH hb) (.inr n) (.lst [.int a, .int b]) = spB p x ++ eH (hb ++ [(n, a, b)]) := by
  have e : kLook (spB p x ++ eH hb) (.inr n) = none := by rw [kH h]; exact hn
  unfold kLook at e
  rw [Option.map_eq_none_iff, List.find?_eq_none] at e
  unfold kPut
  rw [if_neg]
  · simp [eH]
  · rw [List.any_eq_true]
    rintro ⟨y, hy, z⟩
    exact e y hy z
theorem kH_new {p x a b : Int} {n : Str} {hb : Hab} (h : spN n) (hn : kLook (eH hb) (.inr n) = none) : kLook (spB p x ++ eH (hb ++ [(n, a, b)])) (.inr n) = some (.lst [.int a, .int b]) := by
  rw [kH h]
  unfold kLook at hn ⊢
  rw [Option.map_eq_none_iff] at hn
  have e : eH (hb ++ [(n, a, b)]) = eH hb ++ [(.inr n, .lst [.int a, .int b])] := by simp [eH]
  rw [e, List.find?_append, hn]
  simp
theorem inM_r {a b : Int} (h1 : -1000000000000 ≤ b) (h2 : b ≤ 1000000000000) : inM a b := by
  have e1 : -(2 ^ 64) < (-1000000000000 : Int) := by decide +kernel
  have e2 : (1000000000000 : Int) < 2 ^ 64 := by decide +kernel
  exact .inr ⟨Int.lt_of_lt_of_le e1 h1, Int.lt_of_le_of_lt h2 e2⟩
theorem inM_l {a b : Int} (h1 : -1000000000000 ≤ a) (h2 : a ≤ 1000000000000) : inM a b := by
  have e1 : -(2 ^ 64) < (-1000000000000 : Int) := by decide +kernel
  have e2 : (1000000000000 : Int) < 2 ^ 64 := by decide +kernel
  exact .inl ⟨Int.lt_of_lt_of_le e1 h1, Int.lt_of_le_of_lt h2 e2⟩
theorem mul_r {a b : Int} {S : Store} (h1 : -1000000000000 ≤ b) (h2 : b ≤ 1000000000000) : mulD (.int a) (.int b) S = some (.int (a * b), S) := by
  unfold mulD
  simp only
  rw [if_pos (inM_r h1 h2)]
theorem mul_l {a b : Int} {S : Store} (h1 : -1000000000000 ≤ a) (h2 : a ≤ 1000000000000) : mulD (.int a) (.int b) S = some (.int (a * b), S) := by
  unfold mulD
  simp only
  rw [if_pos (inM_l h1 h2)]
theorem inP_s {a b : Int} (h0 : 0 ≤ b) (h1 : b ≤ 1000000) (h2 : a.natAbs ≤ 1000000000000) : inP a b := by
  have e2 : (1000000000000 : Nat) < 2 ^ 64 := by decide +kernel
  exact ⟨h0, h1, Nat.lt_of_le_of_lt h2 e2⟩
theorem pow_s {a b : Int} {S : Store} (h0 : 0 ≤ b) (h1 : b ≤ 1000000) (h2 : a.natAbs ≤ 1000000000000) : powD (.int a) (.int b) S = some (.int (a ^ b.toNat), S) := by
  unfold powD
  simp only
  rw [if_pos (inP_s h0 h1 h2)]
theorem fdiv_s {a b : Int} {S : Store} (h0 : 0 < b) (h1 : b < 1073741824) : fdivD (.int a) (.int b) S = some (.int (a / b), S) := by
  unfold fdivD
  simp only
  rw [if_pos (by omega), Int.fdiv_eq_ediv_of_nonneg _ (by omega)]
theorem mod_s {a b : Int} {S : Store} (h0 : 0 < b) : modD (.int a) (.int b) S = some (.int (a % b), S) := by
  unfold modD
  simp only
  rw [if_pos (by omega), Int.fmod_eq_emod_of_nonneg _ (by omega)]
theorem look1 {F : Cell} {T : Store} {kvs : List (Key × D)} {lk : Bool} {n : Str} : lookD (F :: .dK lk kvs :: T) (.ref 1) (.str n) = some (kLook kvs (.inr n)) := rfl
theorem put1 {F : Cell} {T : Store} {kvs : List (Key × D)} {n : Str} {d : D} (h : kvs.length < 100000) : putD (F :: .dK false kvs :: T) (.ref 1) (.str n) d = some (F :: .dK false (kPut kvs (.inr n) d) :: T) := by
  have : kvs.length < sizeLine := by rw [sizeLine_eq]; omega
  simp [putD, keyK, this]
theorem eH_len (hb : Hab) : (eH hb).length = hb.length := by simp [eH]
theorem cell_sp {F c : Cell} (h : Sp F c) {n : Nat} (hn : 2 ≤ n) : cellBelow n c ∧ cellBelow n F := by
  obtain ⟨figs, p, x, hb, rfl, _, rfl, _⟩ := h.ex
  refine ⟨fun y hy => ?_, belows_map fun _ _ => rfl⟩
  rcases List.mem_append.mp hy with hy | hy
  · simp only [spB, List.mem_cons, List.not_mem_nil, or_false] at hy
    rcases hy with rfl | rfl | rfl
    · exact decide_eq_true (by omega)
    · rfl
    · rfl
  · obtain ⟨u, _, rfl⟩ := List.mem_map.mp hy
    rfl
/-- leaving a def that was handed the spool -/
theorem leave_sp {F c c' : Cell} {T T2 : Store} {d : D} (h : Sp F c') (hd : below 0 d = true) : leave (F :: c :: T) (some (.rt d (F :: c' :: (T ++ T2)))) = some (d, F :: c' :: T) := by
  have := leave_upd (S := F :: c :: T) (S' := F :: c' :: T) (T := T2) (d := d) (by simp) (fun k hk => by
    match k with
    | 0 => exact .inl rfl
    | 1 => exact .inr ⟨c', rfl, (cell_sp h (by simp)).1⟩
    | k + 2 => exact .inl rfl) (below_mono (Nat.zero_le _) d hd)
  exact this
theorem call_sp {n : Nat} {b : DS} {ds : List D} {F c c' : Cell} {T : Store} {d : D} (h : Sp F c') (hd : below 0 d = true)
    (e : Ev b (ds.map some ++ List.replicate (n - ds.length) none) (F :: c :: T) fun f => ∃ T2, f = .rt d (F :: c' :: (T ++ T2))) : callF n b ds (F :: c :: T) = some (d, F :: c' :: T) := by
  obtain ⟨f, e1, T2, rfl⟩ := e
  unfold callF
  rw [e1]
  exact leave_sp h hd
/-- a def that is handed the spool, told by what it may give -/
def SpF (f : DF) (ds : List D) (F c : Cell) (T : Store) (Q : D → Prop) : Prop := ∃ d c', f ds (F :: c :: T) = some (d, F :: c' :: T) ∧ Sp F c' ∧ Q d
theorem spF_ev {n : Nat} {b : DS} {ds : List D} {F c : Cell} {T : Store} {Q : D → Prop}
    (e : Ev b (ds.map some ++ List.replicate (n - ds.length) none) (F :: c :: T) fun f => ∃ d c' T2, f = .rt d (F :: c' :: (T ++ T2)) ∧ Sp F c' ∧ below 0 d = true ∧ Q d) : SpF (callF n b) ds F c T Q := by
  obtain ⟨f, e1, d, c', T2, rfl, h1, h2, h3⟩ := e
  exact ⟨d, c', call_sp h1 h2 ⟨_, e1, T2, rfl⟩, h1, h3⟩
end BK
namespace DL
open PySem PySem.Spec PyProof.Rows L2
theorem Ev.dput {o i v : DE} {ρ : Env'} {S S1 S2 S3 S4 : Store} {Post : Fl → Prop} {d x y : D} (h : v ρ S = some (d, S1)) (ho : o ρ S1 = some (x, S2)) (hi : i ρ S2 = some (y, S3)) (hp : putD S3 x y d = some S4) (q : Post (.nx ρ S4)) : Ev (sDPutC o i v) ρ S Post :=
  ⟨_, by simp only [sDPutC, h, ho, hi, hp], q⟩
end DL
namespace BK
open PySem PySem.Spec PyProof.Rows L2 DL
theorem spC_inj {p x p' x' : Int} {hb hb' : Hab} (h : spC p x hb = spC p' x' hb') : p = p' ∧ x = x' ∧ hb = hb' := by
  unfold spC at h
  injection h with _ h
  have h1 : spB p x = spB p' x' ∧ eH hb = eH hb' := by
    have := List.append_inj h (by simp [spB])
    exact this
  obtain ⟨h1, h2⟩ := h1
  refine ⟨?_, ?_, ?_⟩
  · simp [spB] at h1; exact h1.1
  · simp [spB] at h1; exact h1.2
  · clear h h1
    induction hb generalizing hb' with
    | nil => cases hb' with
      | nil => rfl
      | cons y l => simp [eH] at h2
    | cons y l ih => cases hb' with
      | nil => simp [eH] at h2
      | cons z l' =>
        simp only [eH, List.map_cons, List.cons.injEq, Prod.mk.injEq, Sum.inr.injEq, D.lst.injEq, D.int.injEq, and_true] at h2
        obtain ⟨⟨a, b, c⟩, e⟩ := h2
        rw [ih e]
        obtain ⟨y1, y2, y3⟩ := y
        obtain ⟨z1, z2, z3⟩ := z
        simp_all
end BK
namespace BK
open PySem PySem.Spec PyProof.Rows L2 DL
/-- what may be compared: tuples so deep, of plain things -/
def okA : Nat → D → Bool
  | 0, _ => false
  | k + 1, .tup ds => ds.all (okA k) && decide (ds.length ≤ 100000)
  | _ + 1, .non => true
  | _ + 1, .bl _ => true
  | _ + 1, .int _ => true
  | _ + 1, .str _ => true
  | _ + 1, _ => false
end BK
namespace DL
open PySem PySem.Spec PyProof.Rows L2
/-- x.append(e) -/
theorem cM_apnd {o : DE} {a : DA} {ρ : Env'} {S S1 S2 : Store} {k : Nat} {ds0 ds : List D} {x : D} (ho : o ρ S = some (.ref k, S1)) (h1 : S1[k]? = some (.lst ds0)) (ha : a ρ S1 = some ([x], S2)) (h2 : S2[k]? = some (.lst ds)) (hl : ds.length < 100000) : cM apnd o a ρ S = some (.non, S2.set k (.lst (ds ++ [x]))) := by
  have hl' : ds.length < sizeLine := by rw [sizeLine_eq]; omega
  unfold cM
  rw [ho]
  simp only [h1]
  rw [ha]
  simp only [h2, apnd, hl', if_true]
theorem Ev.apnd {o : DE} {a : DA} {ρ : Env'} {S S1 S2 : Store} {k : Nat} {ds0 ds : List D} {x : D} {Post : Fl → Prop} (ho : o ρ S = some (.ref k, S1)) (h1 : S1[k]? = some (.lst ds0)) (ha : a ρ S1 = some ([x], S2)) (h2 : S2[k]? = some (.lst ds)) (hl : ds.length < 100000) (q : Post (.nx ρ (S2.set k (.lst (ds ++ [x]))))) : Ev (sExpr (cM DL.apnd o a)) ρ S Post :=
  Ev.expr (cM_apnd ho h1 ha h2 hl) q
theorem two63 {i : Nat} (h : i < 100000) : -(2 ^ 63) ≤ (i : Int) ∧ (i : Int) < 2 ^ 63 := by
  have e1 : -(2 ^ 63) ≤ (0 : Int) := by decide +kernel
  have e2 : (100000 : Int) < 2 ^ 63 := by decide +kernel
  exact ⟨Int.le_trans e1 (Int.natCast_nonneg i), Int.lt_trans (by omega) e2⟩
/-- x.pop(i) -/
theorem cM_popAt {o : DE} {a : DA} {ρ : Env'} {S S1 S2 : Store} {k i : Nat} {ds0 ds : List D} {x : D} (ho : o ρ S = some (.ref k, S1)) (h1 : S1[k]? = some (.lst ds0)) (ha : a ρ S1 = some ([.int i], S2)) (h2 : S2[k]? = some (.lst ds)) (hi : ds[i]? = some x) (hl : ds.length < 100000) : cM popAtM o a ρ S = some (x, S2.set k (.lst (ds.eraseIdx i))) := by
  have hlt := (List.getElem?_eq_some_iff.mp hi).1
  have hs : seqIndex? (i : Int) ds.length = some i := by
    unfold seqIndex?
    have hj : (if (i : Int) < 0 then (i : Int) + (ds.length : Int) else (i : Int)) = (i : Int) := if_neg (by omega)
    simp only [hj]
    rw [if_pos (by simp [hlt])]
    simp
  unfold cM
  rw [ho]
  simp only [h1]
  rw [ha]
  simp only [h2, popAtM]
  rw [if_pos (two63 (by omega)), hs]
  simp only [hi, Option.map_some]
/-- a comprehension whose turns change the store -/
theorem lcGo_inv {α : Type} {g : DG} {t : DT} {e : DE} {ρ : Env'} {xs : List D} (en : α → D) (I : List α → List D → Store → Prop)
    (step : ∀ y ys acc S, I (y :: ys) acc S → ∃ ρ1, g (en y) ρ = some ρ1 ∧ ∃ c S1, t ρ1 S = some (c, S1) ∧ (c = false → I ys acc S1) ∧ (c = true → ∃ d S', e ρ1 S1 = some (d, S') ∧ I ys (acc ++ [d]) S')) :
    ∀ (l : List α) (acc : List D) (S : Store), I l acc S → ∃ acc' S', lcGo (lt1 g t e ρ) none xs (l.map en) acc S = some (acc', S') ∧ I [] acc' S'
  | [], acc, S, h => ⟨acc, S, by simp [lcGo, liveOk], h⟩
  | y :: l, acc, S, h => by
    obtain ⟨ρ1, h1, c, S1, h2, h3, h4⟩ := step y l acc S h
    cases c with
    | false =>
      obtain ⟨acc', S2, e2, i2⟩ := lcGo_inv (xs := xs) en I step l acc S1 (h3 rfl)
      exact ⟨acc', S2, by simp only [List.map_cons, lcGo, liveOk, if_true, lt1, h1, h2, e2], i2⟩
    | true =>
      obtain ⟨d, S', e1, i1⟩ := h4 rfl
      obtain ⟨acc', S2, e2, i2⟩ := lcGo_inv (xs := xs) en I step l _ S' i1
      exact ⟨acc', S2, by simp only [List.map_cons, lcGo, liveOk, if_true, lt1, h1, h2, e1, e2], i2⟩
theorem cLC_inv {α : Type} {g : DG} {e : DE} {ρ : Env'} {S S1 : Store} {vs : List Nat} {ci : DI} {xs : List D} {l : List α} (en : α → D) (I : List α → List D → Store → Prop) (hi : ci ρ S = some ((xs, none), S1)) (hx : xs = l.map en) (start : I l [] S1)
    (step : ∀ y ys acc S, I (y :: ys) acc S → ∃ ρ1, g (en y) (wipeD ρ vs) = some ρ1 ∧ ∃ d S', e ρ1 S = some (d, S') ∧ I ys (acc ++ [d]) S') (sz : ∀ acc S, I [] acc S → acc.length ≤ sizeLine) :
    ∃ acc S', cLC vs false ci (lt1 g tYesD e) ρ S = some (.lst acc, S') ∧ I [] acc S' := by
  subst hx
  obtain ⟨acc, S', h1, h2⟩ := lcGo_inv (g := g) (t := tYesD) (e := e) (ρ := wipeD ρ vs) (xs := l.map en) en I (fun y ys acc S h => by
    obtain ⟨ρ1, a1, d, S', a2, a3⟩ := step y ys acc S h
    exact ⟨ρ1, a1, true, S, rfl, (fun z => by cases z), fun _ => ⟨d, S', a2, a3⟩⟩) l [] S1 start
  refine ⟨acc, S', ?_, h2⟩
  unfold cLC
  rw [hi]
  simp only
  rw [h1]
  simp only [mkL]
  rw [if_pos (sz acc S' h2), if_neg (by decide)]
end DL
namespace BK
open PySem PySem.Spec PyProof.Rows L2 DL
theorem str_small {i : Nat} (hi : i < 10) : (toString (i : Int) : Str).length ≤ 10 ∧ ∀ S : Store, strD [.int i] S = some (.str (toString (i : Int)), S) := by
  have h : i = 0 ∨ i = 1 ∨ i = 2 ∨ i = 3 ∨ i = 4 ∨ i = 5 ∨ i = 6 ∨ i = 7 ∨ i = 8 ∨ i = 9 := by omega
  refine ⟨by rcases h with rfl | rfl | rfl | rfl | rfl | rfl | rfl | rfl | rfl | rfl <;> decide +kernel, fun S => ?_⟩
  simp only [strD]
  rw [if_pos]
  rcases h with rfl | rfl | rfl | rfl | rfl | rfl | rfl | rfl | rfl | rfl <;> decide +kernel
theorem letter_ok {m : Nat} (hm : m < 6) : ∃ w : Str, w.length ≤ 1 ∧ ∀ S : Store, ixD (.str "abcxyz") (.int m) S = some (.str w, S) := by
  have hz : ("abcxyz" : Str).length ≤ sizeLine := by decide +kernel
  have key : ∀ m : Nat, ∀ c : Nat, L2.atI ("abcxyz" : Str).cps.toList (m : Int) = some c → ∀ S : Store, ixD (.str "abcxyz") (.int m) S = some (.str ⟨#[c]⟩, S) := fun m c h S => by
    unfold ixD
    simp only
    rw [if_pos hz, h]
    rfl
  have : m = 0 ∨ m = 1 ∨ m = 2 ∨ m = 3 ∨ m = 4 ∨ m = 5 := by omega
  rcases this with rfl | rfl | rfl | rfl | rfl | rfl
  · exact ⟨⟨#[97]⟩, by decide +kernel, key _ _ (by decide +kernel)⟩
  · exact ⟨⟨#[98]⟩, by decide +kernel, key _ _ (by decide +kernel)⟩
  · exact ⟨⟨#[99]⟩, by decide +kernel, key _ _ (by decide +kernel)⟩
  · exact ⟨⟨#[120]⟩, by decide +kernel, key _ _ (by decide +kernel)⟩
  · exact ⟨⟨#[121]⟩, by decide +kernel, key _ _ (by decide +kernel)⟩
  · exact ⟨⟨#[122]⟩, by decide +kernel, key _ _ (by decide +kernel)⟩
theorem word_small {w : Str} {i : Nat} (hw : w.length ≤ 1) (hi : i < 10) : ∃ z : Str, (∀ S : Store, strD [.int i] S = some (.str z, S)) ∧ w.length + z.length ≤ sizeLine := by
  obtain ⟨h1, h2⟩ := str_small hi
  exact ⟨_, h2, by rw [sizeLine_eq]; omega⟩
theorem cat_small {w : Str} {i : Nat} (hw : w.length ≤ 1) (hi : i < 10) (S : Store) : addD (.str w) (.str (toString (i : Int))) S = some (.str (w ++ toString (i : Int)), S) := by
  have := (str_small hi).1
  simp only [addD]
  rw [if_pos (by rw [sizeLine_eq]; omega)]
theorem owner_at {v : Nat} (h : v < 2) : ∃ o : Str, (o = "house" ∨ o = "outside") ∧ ∀ S : Store, ixD (.tup [.str "outside", .str "house"]) (.int v) S = some (.str o, S) := by
  have : v = 0 ∨ v = 1 := by omega
  rcases this with rfl | rfl
  · exact ⟨_, .inr rfl, fun _ => rfl⟩
  · exact ⟨_, .inl rfl, fun _ => rfl⟩
/-- a drawn book -/
structure DB (b : Bk) (T n w m : Nat) : Prop where
  wb : WB b
  t : b.T = T
  n : b.sts.length = n
  m : ∀ s ∈ b.sts, s.2.length ≤ m
  p : ∀ s ∈ b.sts, ∀ v ∈ s.2, ∀ x ∈ v.p, -(w : Int) ≤ x ∧ x ≤ w
def gM (T n w : Nat) (v : Mv) : Prop := v.p.length = T ∧ v.to < n ∧ ∀ x ∈ v.p, -(w : Int) ≤ x ∧ x ≤ w
def gS (T n w m : Nat) (s : Str × List Mv) : Prop := (s.1 = "house" ∨ s.1 = "outside") ∧ s.2.length ≤ m ∧ ∀ v ∈ s.2, gM T n w v
theorem db_of {T n w m : Nat} {sts : List (Str × List Mv)} (hT : 1 ≤ T) (hT2 : T ≤ 100) (hn : n ≤ 1000) (hm : m ≤ 1000) (hl : sts.length = n) (h : ∀ s ∈ sts, gS T n w m s) : DB ⟨T, sts⟩ T n w m :=
  ⟨⟨hT, hT2, by show sts.length ≤ 1000; omega, fun s hs => Nat.le_trans (h s hs).2.1 hm, fun s hs v hv => ((h s hs).2.2 v hv).1, fun s hs v hv => by show v.to < sts.length; rw [hl]; exact ((h s hs).2.2 v hv).2.1, fun s hs => (h s hs).1⟩, rfl, hl, fun s hs => (h s hs).2.1, fun s hs v hv => ((h s hs).2.2 v hv).2.2⟩
end BK
namespace DL
open PySem PySem.Spec PyProof.Rows L2
theorem Ev.unK {c : DE} {s : DS} {ρ : Env'} {S : Store} {k : Nat} {kvs : List (D × D)} {Post : Fl → Prop} (hc : c ρ S = some (.ref k, S)) (hk : S[k]? = some (.dN false kvs)) (h : Ev s ρ S (fun f => ∃ f', unF k false f = some f' ∧ Post f')) : Ev (sUnK c s) ρ S Post := by
  obtain ⟨f, e, f', e2, q⟩ := h
  refine ⟨f', ?_, q⟩
  have hl : lkOf c ρ S = some (k, false) := by
    unfold lkOf
    rw [hc]
    simp only [hk, isLk]
    rw [if_pos (.inr trivial)]
  unfold sUnK
  rw [hl]
  simp only [e, Option.bind_some]
  exact e2
theorem itK {c : DE} {ρ : Env'} {S : Store} {k : Nat} {lk : Bool} {kvs : List (D × D)} (hc : c ρ S = some (.ref k, S)) (hk : S[k]? = some (.dN lk kvs)) : cItK c ρ S = some ((kvs.map (·.1), none), S.set k (.dN true kvs)) := by
  unfold cItK
  rw [hc]
  simp only [hk]
theorem unF_nx {k : Nat} {ρ : Env'} {S : Store} {kvs : List (D × D)} (h : S[k]? = some (.dN true kvs)) : unF k false (.nx ρ S) = some (.nx ρ (S.set k (.dN false kvs))) := by
  simp only [unF, unS, h, Option.map_some]
theorem unF_rt {k : Nat} {d : D} {S : Store} {kvs : List (D × D)} (h : S[k]? = some (.dN true kvs)) : unF k false (.rt d S) = some (.rt d (S.set k (.dN false kvs))) := by
  simp only [unF, unS, h, Option.map_some]
/-- a cell in the midst is locked -/
theorem lock_split {A Z : Store} {k : Nat} {x y c0 m0 : Cell} (hk : (A ++ c0 :: (Z ++ [m0]))[k]? = some x) (h1 : k ≠ A.length) (h2 : k < A.length + 1 + Z.length) :
    ∃ A' Z', A'.length = A.length ∧ Z'.length = Z.length ∧ ∀ (c : Cell) (m : Store), (A ++ c :: (Z ++ m)).set k y = A' ++ c :: (Z' ++ m) ∧ (A' ++ c :: (Z' ++ m)).set k x = A ++ c :: (Z ++ m) ∧ (A' ++ c :: (Z' ++ m))[k]? = some y := by
  by_cases hA : k < A.length
  · refine ⟨A.set k y, Z, by simp, rfl, fun c m => ⟨?_, ?_, ?_⟩⟩
    · rw [List.set_append_left _ _ hA]
    · rw [List.set_append_left _ _ (by simpa using hA), List.set_set]
      have : A.set k x = A := by
        rw [List.getElem?_append_left hA] at hk
        refine List.ext_getElem? fun i => ?_
        by_cases hi : i = k
        · subst hi; rw [List.getElem?_set_self hA, hk]
        · rw [List.getElem?_set_ne (Ne.symm hi)]
      rw [this]
    · rw [List.getElem?_append_left (by simpa using hA), List.getElem?_set_self hA]
  · obtain ⟨i, rfl⟩ : ∃ i, k = A.length + 1 + i := ⟨k - A.length - 1, by omega⟩
    have hi : i < Z.length := by omega
    have e1 : A.length + 1 + i - A.length = i + 1 := by omega
    rw [List.getElem?_append_right (by omega), e1, List.getElem?_cons_succ, List.getElem?_append_left hi] at hk
    refine ⟨A, Z.set i y, rfl, by simp, fun c m => ⟨?_, ?_, ?_⟩⟩
    · rw [List.set_append_right _ _ (by omega), e1, List.set_cons_succ, List.set_append_left _ _ hi]
    · rw [List.set_append_right _ _ (by omega), e1, List.set_cons_succ, List.set_append_left _ _ (by simpa using hi), List.set_set]
      have : Z.set i x = Z := by
        refine List.ext_getElem? fun j => ?_
        by_cases hj : j = i
        · subst hj; rw [List.getElem?_set_self hi, hk]
        · rw [List.getElem?_set_ne (Ne.symm hj)]
      rw [this]
    · rw [List.getElem?_append_right (by omega), e1, List.getElem?_cons_succ, List.getElem?_append_left (by simpa using hi), List.getElem?_set_self hi]
end DL
namespace DL
open PySem PySem.Spec PyProof.Rows L2
section
variable {ρ : Env'} {S S1 S2 : Store} {a b : DE} {x y d : D} {c : Bool}
theorem cBin_of {f : D → D → Store → Option (D × Store)} {r : Option (D × Store)} (ha : a ρ S = some (x, S1)) (hb : b ρ S1 = some (y, S2)) (hf : f x y S2 = r) : cBin f a b ρ S = r := by
  unfold cBin
  rw [ha]
  simp only
  rw [hb]
  exact hf
theorem cUn_of {f : D → Store → Option (D × Store)} {r : Option (D × Store)} (ha : a ρ S = some (x, S1)) (hf : f x S1 = r) : cUn f a ρ S = r := by
  unfold cUn
  rw [ha]
  exact hf
theorem cB_of (ha : a ρ S = some (.bl c, S1)) : cB a ρ S = some (c, S1) := by
  unfold cB
  rw [ha]
theorem cCons_of {r : DA} {xs : List D} (ha : a ρ S = some (x, S1)) (hb : r ρ S1 = some (xs, S2)) : cCons a r ρ S = some (x :: xs, S2) := by
  unfold cCons
  rw [ha]
  simp only
  rw [hb]
theorem cApp_of {f : List D → Store → Option (D × Store)} {r : DA} {xs : List D} {q : Option (D × Store)} (ha : r ρ S = some (xs, S1)) (hf : f xs S1 = q) : cApp f r ρ S = q := by
  unfold cApp
  rw [ha]
  exact hf
theorem nD_of {n : Nat} {F : DF} {xs : List D} {q : Option (D × Store)} (h : F xs S = q) (hn : xs.length = n) : nD n F xs S = q := by
  unfold nD
  rw [if_pos hn]
  exact h
end
end DL
namespace DL
open PySem PySem.Spec PyProof.Rows L2
section
variable {ρ : Env'} {S S1 S2 : Store} {a b : DT} {c : Bool} {r : Option (Bool × Store)}
theorem cNot_of (h : a ρ S = some (c, S1)) : cNot a ρ S = some (!c, S1) := by
  unfold cNot
  rw [h]
theorem cOr_f (h : a ρ S = some (false, S1)) (h2 : b ρ S1 = r) : cOr a b ρ S = r := by
  unfold cOr
  rw [h]
  exact h2
theorem cOr_t (h : a ρ S = some (true, S1)) : cOr a b ρ S = some (true, S1) := by
  unfold cOr
  rw [h]
theorem cAnd_t (h : a ρ S = some (true, S1)) (h2 : b ρ S1 = r) : cAnd a b ρ S = r := by
  unfold cAnd
  rw [h]
  exact h2
theorem cAnd_f (h : a ρ S = some (false, S1)) : cAnd a b ρ S = some (false, S1) := by
  unfold cAnd
  rw [h]
theorem cIf_t {x y : DE} {q : Option (D × Store)} (h : a ρ S = some (true, S1)) (h2 : x ρ S1 = q) : cIf a x y ρ S = q := by
  unfold cIf
  rw [h]
  exact h2
theorem cIf_f {x y : DE} {q : Option (D × Store)} (h : a ρ S = some (false, S1)) (h2 : y ρ S1 = q) : cIf a x y ρ S = q := by
  unfold cIf
  rw [h]
  exact h2
end
end DL

/-! Drawn levels; boxes of places. -/
namespace BK
open PySem PySem.Spec PyProof.Rows L2 DL

theorem drawG {α : Type} {F c : Cell} {T : Store} {ρ : Env'} {i : Nat} {ci : DI} {e : DE} {l : List α} {en : α → D} {Q : α → Int → Prop} (h : Sp F c) (hnn : l.length ≤ 100000)
    (hi : ci ρ (F :: c :: T) = some ((l.map en, none), F :: c :: T)) (he : ∀ y ∈ l, ∀ c, Sp F c → ∃ (v : Int) (c' : Cell), e ((wipeD ρ [i]).set i (some (en y))) (F :: c :: T) = some (.int v, F :: c' :: T) ∧ Sp F c' ∧ Q y v) :
    ∃ (r : Lv) (c' : Cell), cApp tupleD (cCons (cLC [i] false ci (lt1 (gN i) tYesD e)) cNil) ρ (F :: c :: T) = some (eL r, F :: c' :: T) ∧ Sp F c' ∧ Paired Q l r := by
  obtain ⟨acc, S', e1, c', r, dn, ea, es, hs, hd, hq⟩ := cLC_inv (α := α) (S := F :: c :: T) (ρ := ρ) (vs := [i]) (ci := ci) (g := gN i) (e := e) en
    (fun ks acc S => ∃ (c' : Cell) (r : Lv) (dn : List α), acc = r.map D.int ∧ S = F :: c' :: T ∧ Sp F c' ∧ l = dn ++ ks ∧ Paired Q dn r) hi rfl ⟨c, [], [], rfl, rfl, h, rfl, .nil⟩ (fun k ks acc S ⟨c1, r, dn, ea, es, s1, hd, hq⟩ => by
      subst ea es
      obtain ⟨v, c2, e2, s2, hv⟩ := he k (by rw [hd]; simp) c1 s1
      exact ⟨_, rfl, .int v, _, e2, c2, r ++ [v], dn ++ [k], by simp, rfl, s2, by rw [hd]; simp, snoc hq hv⟩) (fun acc S ⟨c1, r, dn, ea, _, _, hd, hq⟩ => by
      rw [List.append_nil] at hd
      subst hd
      rw [ea, List.length_map, ← paired_len hq]
      exact small hnn)
  subst ea es
  rw [List.append_nil] at hd
  subst hd
  exact ⟨r, c', cApp_of (cCons1 e1) (by simp [tupleD, asQ, asL, eL]), hs, hq⟩
where
  snoc {α β : Type} {R : α → β → Prop} {l : List α} {m : List β} {x : α} {y : β} (h : Paired R l m) (r : R x y) : Paired R (l ++ [x]) (m ++ [y]) := by
    induction h with
    | nil => exact .cons r .nil
    | cons r' _ ih => exact .cons r' ih
theorem paired_gt {Q : Int → Int → Prop} : ∀ {l r : Lv}, Paired Q l r → ∀ t, t < l.length → Q (gt l t) (gt r t)
  | _, _, .nil, t, h => by simp at h
  | _, _, .cons q p, 0, _ => by simpa [gt] using q
  | _, _, .cons q p, t + 1, h => by
    have := paired_gt p t (by simpa using h)
    simpa [gt] using this
theorem paired_mem {α β : Type} {Q : α → β → Prop} {P : β → Prop} (h : ∀ x y, Q x y → P y) : ∀ {l : List α} {r : List β}, Paired Q l r → ∀ y ∈ r, P y
  | _, _, .nil => by simp
  | _, _, .cons q p => by
    intro y hy
    rcases List.mem_cons.mp hy with rfl | hy
    · exact h _ _ q
    · exact paired_mem h p y hy
/-- all levels up to the sizes -/
def bxs : Lv → List Lv
  | [] => [[]]
  | a :: y => (List.range (a.toNat + 1)).flatMap fun v : Nat => (bxs y).map fun l => ((v : Nat) : Int) :: l
def inBx (y l : Lv) : Prop := l.length = y.length ∧ ∀ t, t < y.length → 0 ≤ gt l t ∧ gt l t ≤ gt y t
theorem mem_bxs : ∀ {y l : Lv}, inBx y l → l ∈ bxs y
  | [], l, h => by
    have : l = [] := List.length_eq_zero_iff.mp h.1
    simp [bxs, this]
  | a :: y, [], h => by simp [inBx] at h
  | a :: y, x :: l, h => by
    obtain ⟨h1, h2⟩ := h
    have h0 := h2 0 (by simp)
    have e1 : gt (x :: l) 0 = x := by simp [gt]
    have e2 : gt (a :: y) 0 = a := by simp [gt]
    rw [e1, e2] at h0
    refine List.mem_flatMap.mpr ⟨x.toNat, by simp; omega, List.mem_map.mpr ⟨l, mem_bxs ⟨by simpa using h1, fun t ht => ?_⟩, ?_⟩⟩
    · have := h2 (t + 1) (by simpa using ht)
      simpa [gt] using this
    · rw [Int.toNat_of_nonneg h0.1]
theorem bxs_len : ∀ (a : Int) (y : Lv), (bxs (a :: y)).length = (a.toNat + 1) * (bxs y).length := fun a y => by
  simp only [bxs]
  generalize bxs y = B
  induction a.toNat + 1 with
  | zero => simp
  | succ n ih => rw [List.range_succ, List.flatMap_append, List.length_append, ih, Nat.succ_mul]; simp
def ubx (n : Nat) (y : Lv) : List Plc := (List.range n).flatMap fun s => (bxs y).map fun l => (s, l)
theorem mem_ubx {n : Nat} {y : Lv} {p : Plc} (h1 : p.1 < n) (h2 : inBx y p.2) : p ∈ ubx n y := List.mem_flatMap.mpr ⟨p.1, by simpa using h1, List.mem_map.mpr ⟨p.2, mem_bxs h2, rfl⟩⟩
theorem ubx_len (n : Nat) (y : Lv) : (ubx n y).length = n * (bxs y).length := by
  unfold ubx
  generalize bxs y = B
  induction n with
  | zero => simp
  | succ n ih => rw [List.range_succ, List.flatMap_append, List.length_append, ih, Nat.succ_mul]; simp
end BK

namespace K84
open PySem PySem.Spec PyProof.Rows L2 DL
noncomputable def c__law_roll : DS := (sSeq (sIf (cB (cBin ltD (cBin dGetD (cVar 0) (cC (.str "place"))) (cApp lenD (cCons (cBin dGetD (cVar 0) (cC (.str "figures"))) cNil)))) (sSeq (sDPutC (cVar 0) (cC (.str "place")) (cBin addD (cBin dGetD (cVar 0) (cC (.str "place"))) (cC (.int 1))))
  (sRet (cBin modD (cApp intD (cCons (cBin ixD (cBin dGetD (cVar 0) (cC (.str "figures"))) (cBin subD (cBin dGetD (cVar 0) (cC (.str "place"))) (cC (.int 1)))) cNil)) (cVar 1)))) sNext)
  (sSeq (sDPutC (cVar 0) (cC (.str "mix")) (cBin modD (cApp intD (cCons (cBin addD (cBin mulD (cBin dGetD (cVar 0) (cC (.str "mix"))) (cC (.int 16807))) (cC (.int 4001))) cNil)) (cC (.int 2147483647))))
  (sRet (cBin modD (cApp intD (cCons (cBin fdivD (cBin dGetD (cVar 0) (cC (.str "mix"))) (cC (.int 127))) cNil)) (cVar 1)))))
noncomputable def f__law_roll : DF := callF 2 c__law_roll
noncomputable def c__law_poured : DS := (sRet (cApp tupleD (cCons (cLC [2] false (cRng1 (cApp lenD (cCons (cVar 0) cNil))) (lt1 (gN 2) tYesD (cBin addD (cBin ixD (cVar 0) (cVar 2)) (cBin ixD (cBin ixD (cVar 1) (cC (.int 1))) (cVar 2))))) cNil)))
noncomputable def f__law_poured : DF := callF 3 c__law_poured
noncomputable def c__law_spilt : DS := (sRet (cIf (cB (cBin isND (cVar 1) (cC .non))) (cVar 0) (cApp tupleD (cCons (cLC [2] false (cRng1 (cApp lenD (cCons (cVar 0) cNil))) (lt1 (gN 2) tYesD (cApp min2D (cCons (cBin ixD (cVar 0) (cVar 2)) (cCons (cBin ixD (cVar 1) (cVar 2)) cNil))))) cNil))))
noncomputable def f__law_spilt : DF := callF 3 c__law_spilt
noncomputable def c__law_ruled : DS := (sSeq (sSet (gN 3) (cC .non))
  (sSeq (sFor (cRng1 (cApp lenD (cCons (cVar 0) cNil))) (gN 4) (sSeq (sSet (gN 5) (cApp (nD 2 f__law_poured) (cCons (cVar 2) (cCons (cBin ixD (cVar 0) (cVar 4)) cNil))))
  (sSeq (sSet (gN 6) (cBin dGetD (cDispK [((cC (.str "first")), (cC (.int 0))), ((cC (.str "highest")), (cApp sum3D (cCons (cVar 5) cNil))), ((cC (.str "even")), (cApp min2D (cCons (cVar 5) cNil)))]) (cVar 1)))
  (sIf (cAnd (cB (cBin geD (cApp min2D (cCons (cVar 5) cNil)) (cC (.int 0)))) (cOr (cB (cBin isND (cVar 3) (cC .non))) (cB (cBin gtD (cVar 6) (cBin ixD (cVar 3) (cC (.int 0))))))) (sSet (gN 3) (cApp mkTup (cCons (cVar 6) (cCons (cVar 4) cNil)))) sNext))))
  (sRet (cIf (cB (cBin isND (cVar 3) (cC .non))) (cC (.int 0)) (cBin ixD (cVar 3) (cC (.int 1)))))))
noncomputable def f__law_ruled : DF := callF 7 c__law_ruled
noncomputable def c__law_pick : DS := (sSeq (sSet (gN 3) (cBin ixD (cBin ixD (cBin ixD (cVar 0) (cC (.int 1))) (cBin ixD (cVar 2) (cC (.int 0)))) (cC (.int 1))))
  (sSeq (sIf (cB (cUn (isiD "str") (cVar 1))) (sRet (cApp (nD 3 f__law_ruled) (cCons (cVar 3) (cCons (cVar 1) (cCons (cBin ixD (cVar 2) (cC (.int 1))) cNil))))) sNext)
  (sSeq (sFor (cItS (cBin ixD (cVar 1) (cBin ixD (cVar 2) (cC (.int 0))))) (gN 4) (sIf (cB (cBin geD (cApp min2D (cCons (cApp (nD 2 f__law_poured) (cCons (cBin ixD (cVar 2) (cC (.int 1))) (cCons (cBin ixD (cVar 3) (cVar 4)) cNil))) cNil)) (cC (.int 0)))) (sRet (cVar 4)) sNext))
  (sRet (cBin ixD (cBin ixD (cVar 1) (cBin ixD (cVar 2) (cC (.int 0)))) (cC (.int 0)))))))
noncomputable def f__law_pick : DF := callF 5 c__law_pick
noncomputable def c__law_turns : DS := (sSeq (sSet (gT 2 (gsCons (gN 3) (gsCons (gN 4) gsNil))) (cBin ixD (cBin ixD (cVar 0) (cC (.int 1))) (cBin ixD (cVar 2) (cC (.int 0)))))
  (sSeq (sIf (cB (cBin eqD (cApp lenD (cCons (cVar 4) cNil)) (cC (.int 0)))) (sRet (cApp mkLst cNil)) sNext)
  (sRet (cIf (cB (cBin eqD (cVar 3) (cC (.str "house")))) (cApp mkLst (cCons (cApp (nD 3 f__law_pick) (cCons (cVar 0) (cCons (cVar 1) (cCons (cVar 2) cNil)))) cNil)) (cLC [5] false (cRng1 (cApp lenD (cCons (cVar 4) cNil))) (lt1 (gN 5) tYesD (cVar 5)))))))
noncomputable def f__law_turns : DF := callF 6 c__law_turns
noncomputable def c__law_right : DS := (sSeq (sIf (cOr (cNot (cB (cUn (isiD "tuple") (cVar 4)))) (cB (cBin neD (cApp lenD (cCons (cVar 4) cNil)) (cVar 5)))) (sRet (cC (.bl false))) sNext)
  (sSeq (sSet (gN 7) (cApp mkTup (cCons (cVar 1) (cCons (cVar 2) cNil))))
  (sSeq (sFor (cRng1 (cVar 5)) (gN 8) (sSeq (sSet (gN 9) (cBin ixD (cVar 4) (cVar 8)))
  (sSeq (sIf (cOr (cNot (cB (cUn (isiD "int") (cVar 9)))) (cOr (cB (cUn (isiD "bool") (cVar 9))) (cB (cBin (inLD true) (cVar 9) (cApp (nD 3 f__law_turns) (cCons (cVar 0) (cCons (cVar 3) (cCons (cVar 7) cNil)))))))) (sRet (cC (.bl false))) sNext)
  (sSeq (sSet (gN 10) (cBin ixD (cBin ixD (cBin ixD (cBin ixD (cVar 0) (cC (.int 1))) (cBin ixD (cVar 7) (cC (.int 0)))) (cC (.int 1))) (cVar 9)))
  (sSeq (sSet (gN 7) (cApp mkTup (cCons (cBin ixD (cVar 10) (cC (.int 2))) (cCons (cApp (nD 2 f__law_spilt) (cCons (cApp (nD 2 f__law_poured) (cCons (cBin ixD (cVar 7) (cC (.int 1))) (cCons (cVar 10) cNil))) (cCons (cVar 6) cNil))) cNil))))
  (sIf (cB (cBin neD (cBin ltD (cApp min2D (cCons (cBin ixD (cVar 7) (cC (.int 1))) cNil)) (cC (.int 0))) (cBin eqD (cVar 8) (cBin subD (cVar 5) (cC (.int 1)))))) (sRet (cC (.bl false))) sNext))))))
  (sRet (cC (.bl true))))))
noncomputable def f__law_right : DF := callF 11 c__law_right
noncomputable def c_is_rest : DS := (sRet (cBin eqD (cApp lenD (cCons (cBin ixD (cBin ixD (cBin ixD (cVar 0) (cC (.int 1))) (cVar 1)) (cC (.int 1))) cNil)) (cC (.int 0))))
noncomputable def f_is_rest : DF := callF 2 c_is_rest
noncomputable def c_moves_of : DS := (sRet (cBin ixD (cBin ixD (cBin ixD (cVar 0) (cC (.int 1))) (cVar 1)) (cC (.int 1))))
noncomputable def f_moves_of : DF := callF 2 c_moves_of
noncomputable def c_poured : DS := (sRet (cApp tupleD (cCons (cLC [2, 3] false (cZip (cVar 0) (cVar 1)) (lt1 (gT 2 (gsCons (gN 2) (gsCons (gN 3) gsNil))) tYesD (cBin addD (cVar 2) (cVar 3)))) cNil)))
noncomputable def f_poured : DF := callF 4 c_poured
noncomputable def c_is_dry : DS := (sRet (cApp anyD (cCons (cLC [1] false (cItS (cVar 0)) (lt1 (gN 1) tYesD (cBin ltD (cVar 1) (cC (.int 0))))) cNil)))
noncomputable def f_is_dry : DF := callF 2 c_is_dry
noncomputable def c_ordered_move : DS := (sSeq (sFor (cItS (cBin ixD (cVar 3) (cVar 1))) (gN 4) (sIf (cNot (cB (cApp (nD 1 f_is_dry) (cCons (cApp (nD 2 f_poured) (cCons (cVar 2) (cCons (cBin ixD (cBin ixD (cApp (nD 2 f_moves_of) (cCons (cVar 0) (cCons (cVar 1) cNil))) (cVar 4)) (cC (.int 1))) cNil))) cNil)))) (sRet (cVar 4)) sNext))
  (sRet (cBin ixD (cBin ixD (cVar 3) (cVar 1)) (cC (.int 0)))))
noncomputable def f_ordered_move : DF := callF 5 c_ordered_move
noncomputable def c_owner_of : DS := (sRet (cBin ixD (cBin ixD (cBin ixD (cVar 0) (cC (.int 1))) (cVar 1)) (cC (.int 0))))
noncomputable def f_owner_of : DF := callF 2 c_owner_of
noncomputable def c_numbers_at : DS := (sSeq (sSet (gT 2 (gsCons (gN 3) (gsCons (gN 4) gsNil))) (cVar 1))
  (sSeq (sIf (cB (cBin eqD (cApp (nD 2 f_owner_of) (cCons (cVar 0) (cCons (cVar 3) cNil))) (cC (.str "outside")))) (sRet (cListRg false (cC (.int 0)) (cApp lenD (cCons (cApp (nD 2 f_moves_of) (cCons (cVar 0) (cCons (cVar 3) cNil))) cNil)))) sNext)
  (sRet (cIf (cNot (cB (cApp (nD 2 f_is_rest) (cCons (cVar 0) (cCons (cVar 3) cNil))))) (cApp mkLst (cCons (cApp (nD 4 f_ordered_move) (cCons (cVar 0) (cCons (cVar 3) (cCons (cVar 4) (cCons (cVar 2) cNil))))) cNil)) (cApp mkLst cNil)))))
noncomputable def f_numbers_at : DF := callF 5 c_numbers_at
noncomputable def c_led_back : DS := (sSeq (sSet (gN 2) (cApp mkBox cNil))
  (sSeq (sWhile (cB (cBin notND (cBin dGetD (cVar 0) (cVar 1)) (cC .non))) (sSeq (sSet (gT 2 (gsCons (gN 3) (gsCons (gN 4) gsNil))) (cBin dGetD (cVar 0) (cVar 1)))
  (sSeq (sExpr (cM apnd (cVar 2) (cCons (cVar 4) cNil)))
  (sSet (gN 1) (cVar 3)))))
  (sRet (cApp tupleD (cCons (cUn revD (cVar 2)) cNil)))))
noncomputable def f_led_back : DF := callF 5 c_led_back
noncomputable def c_beaten_within : DS := (sSeq (sSet (gN 5) (cDisp true (cApp mkTup (cCons (cVar 1) (cCons (cVar 2) cNil))) (cC .non)))
  (sSeq (sSet (gN 6) (cApp mkLst (cCons (cApp mkTup (cCons (cVar 1) (cCons (cVar 2) cNil))) cNil)))
  (sSeq (sFor (cRng1 (cVar 4)) (gN 7) (sSeq (sSet (gN 8) (cApp mkBox cNil))
  (sSeq (sFor (cItS (cVar 6)) (gN 9) (sFor (cItS (cApp (nD 3 f_numbers_at) (cCons (cVar 0) (cCons (cVar 9) (cCons (cVar 3) cNil))))) (gN 10) (sSeq (sSet (gN 11) (cBin ixD (cApp (nD 2 f_moves_of) (cCons (cVar 0) (cCons (cBin ixD (cVar 9) (cC (.int 0))) cNil))) (cVar 10)))
  (sSeq (sSet (gN 12) (cApp mkTup (cCons (cBin ixD (cVar 11) (cC (.int 2))) (cCons (cApp (nD 2 f_poured) (cCons (cBin ixD (cVar 9) (cC (.int 1))) (cCons (cBin ixD (cVar 11) (cC (.int 1))) cNil))) cNil))))
  (sSeq (sIf (cB (cApp (nD 1 f_is_dry) (cCons (cBin ixD (cVar 12) (cC (.int 1))) cNil))) (sRet (cBin addD (cApp (nD 2 f_led_back) (cCons (cVar 5) (cCons (cVar 9) cNil))) (cApp mkTup (cCons (cVar 10) cNil)))) sNext)
  (sIf (cB (cBin dNotInD (cVar 12) (cVar 5))) (sSeq (sDPutC (cVar 5) (cVar 12) (cApp mkTup (cCons (cVar 9) (cCons (cVar 10) cNil))))
  (sExpr (cM apnd (cVar 8) (cCons (cVar 12) cNil)))) sNext))))))
  (sSet (gN 6) (cFrz (cVar 8))))))
  (sRet (cC .non)))))
noncomputable def f_beaten_within : DF := callF 13 c_beaten_within
noncomputable def c__law_fewest : DS := (sSeq (sSet (gN 6) (cDisp true (cApp mkTup (cCons (cVar 1) (cCons (cVar 2) cNil))) (cC (.bl true))))
  (sSeq (sSet (gN 7) (cDisp true (cApp mkTup (cCons (cVar 1) (cCons (cVar 2) cNil))) (cC (.bl true))))
  (sSeq (sFor (cRng2 (cC (.int 1)) (cBin addD (cVar 4) (cC (.int 1)))) (gN 8) (sSeq (sSet (gN 9) (cDNew true))
  (sSeq (sUnK (cVar 6) (sFor (cItK (cVar 6)) (gN 10) (sFor (cItS (cApp (nD 3 f__law_turns) (cCons (cVar 0) (cCons (cVar 3) (cCons (cVar 10) cNil))))) (gN 11) (sSeq (sSet (gN 12) (cBin ixD (cBin ixD (cBin ixD (cBin ixD (cVar 0) (cC (.int 1))) (cBin ixD (cVar 10) (cC (.int 0)))) (cC (.int 1))) (cVar 11)))
  (sSeq (sSet (gN 13) (cApp (nD 2 f__law_spilt) (cCons (cApp (nD 2 f__law_poured) (cCons (cBin ixD (cVar 10) (cC (.int 1))) (cCons (cVar 12) cNil))) (cCons (cVar 5) cNil))))
  (sSeq (sIf (cB (cBin ltD (cApp min2D (cCons (cVar 13) cNil)) (cC (.int 0)))) (sRet (cVar 8)) sNext)
  (sIf (cB (cBin dNotInD (cApp mkTup (cCons (cBin ixD (cVar 12) (cC (.int 2))) (cCons (cVar 13) cNil))) (cVar 7))) (sSeq (sDPutC (cVar 7) (cApp mkTup (cCons (cBin ixD (cVar 12) (cC (.int 2))) (cCons (cVar 13) cNil))) (cC (.bl true)))
  (sDPutC (cVar 9) (cApp mkTup (cCons (cBin ixD (cVar 12) (cC (.int 2))) (cCons (cVar 13) cNil))) (cC (.bl true)))) sNext)))))))
  (sSeq (sSet (gN 6) (cVar 9))
  (sSeq (sIf (cB (cBin gtD (cApp len3D (cCons (cVar 7) cNil)) (cC (.int 900)))) (sRet (cUn negD (cC (.int 1)))) sNext)
  (sIf (cB (cBin eqD (cApp len3D (cCons (cVar 6) cNil)) (cC (.int 0)))) sBreak sNext))))))
  (sRet (cC .non)))))
noncomputable def f__law_fewest : DF := callF 14 c__law_fewest
noncomputable def c__law_beaten : DS := (sSeq (sSet (gN 5) (cApp (nD 6 f__law_fewest) (cCons (cVar 0) (cCons (cVar 1) (cCons (cVar 2) (cCons (cVar 3) (cCons (cVar 4) (cCons (cC .non) cNil))))))))
  (sSeq (sIf (cAnd (cB (cBin notND (cVar 5) (cC .non))) (cB (cBin ltD (cVar 5) (cC (.int 0))))) (sRet (cC (.bl true))) sNext)
  (sSeq (sSet (gN 6) (cApp (nD 5 f_beaten_within) (cCons (cVar 0) (cCons (cVar 1) (cCons (cVar 2) (cCons (cVar 3) (cCons (cVar 4) cNil)))))))
  (sRet (cIf (cB (cBin isND (cVar 5) (cC .non))) (cBin isND (cVar 6) (cC .non)) (cApp (nD 7 f__law_right) (cCons (cVar 0) (cCons (cVar 1) (cCons (cVar 2) (cCons (cVar 3) (cCons (cVar 6) (cCons (cVar 5) (cCons (cC .non) cNil)))))))))))))
noncomputable def f__law_beaten : DF := callF 7 c__law_beaten
noncomputable def c__law_wont : DS := (sSeq (sIf (cB (cBin dNotInD (cVar 1) (cVar 0))) (sDPutC (cVar 0) (cVar 1) (cApp mkLst (cCons (cApp (nD 2 f__law_roll) (cCons (cVar 0) (cCons (cC (.int 6)) cNil))) (cCons (cApp (nD 2 f__law_roll) (cCons (cVar 0) (cCons (cVar 2) cNil))) cNil)))) sNext)
  (sSeq (sSet (gN 3) (cBin dGetD (cVar 0) (cVar 1)))
  (sSeq (sIf (cB (cBin eqD (cBin ixD (cVar 3) (cC (.int 0))) (cC (.int 0)))) (sRet (cC (.int 0))) sNext)
  (sSeq (sIf (cB (cBin eqD (cBin ixD (cVar 3) (cC (.int 0))) (cC (.int 1)))) (sRet (cBin subD (cVar 2) (cC (.int 1)))) sNext)
  (sRet (cIf (cB (cBin eqD (cBin ixD (cVar 3) (cC (.int 0))) (cC (.int 2)))) (cBin modD (cApp intD (cCons (cBin ixD (cVar 3) (cC (.int 1))) cNil)) (cVar 2)) (cApp (nD 2 f__law_roll) (cCons (cVar 0) (cCons (cVar 2) cNil)))))))))
noncomputable def f__law_wont : DF := callF 4 c__law_wont
noncomputable def c__law_order : DS := (sSeq (sSet (gN 2) (cApp mkBox cNil))
  (sSeq (sFor (cItS (cBin ixD (cVar 1) (cC (.int 1)))) (gT 2 (gsCons (gN 3) (gsCons (gN 4) gsNil))) (sSeq (sSet (gN 5) (cIf (cB (cBin eqD (cVar 3) (cC (.str "house")))) (cLC [7] true (cRng1 (cApp lenD (cCons (cVar 4) cNil))) (lt1 (gN 7) tYesD (cVar 7))) (cApp mkBox cNil)))
  (sSeq (sSet (gN 6) (cApp mkBox cNil))
  (sSeq (sWhile (cB (cBin gtD (cApp lenD (cCons (cVar 5) cNil)) (cC (.int 0)))) (sExpr (cM apnd (cVar 6) (cCons (cM popAtM (cVar 5) (cCons (cIf (cB (cBin gtD (cApp lenD (cCons (cVar 5) cNil)) (cC (.int 3)))) (cApp (nD 3 f__law_wont) (cCons (cVar 0) (cCons (cC (.str "order")) (cCons (cC (.int 4)) cNil)))) (cApp (nD 2 f__law_roll) (cCons (cVar 0) (cCons (cApp lenD (cCons (cVar 5) cNil)) cNil)))) cNil)) cNil))))
  (sExpr (cM apnd (cVar 2) (cCons (cApp tupleD (cCons (cVar 6) cNil)) cNil)))))))
  (sRet (cApp tupleD (cCons (cVar 2) cNil)))))
noncomputable def f__law_order : DF := callF 8 c__law_order
noncomputable def c__law_book : DS := (sSeq (sSet (gN 5) (cApp mkBox cNil))
  (sSeq (sFor (cRng1 (cVar 2)) (gN 6) (sSeq (sSet (gN 7) (cApp mkBox cNil))
  (sSeq (sFor (cRng1 (cIf (cB (cBin gtD (cApp (nD 2 f__law_roll) (cCons (cVar 0) (cCons (cC (.int 9)) cNil))) (cC (.int 0)))) (cBin addD (cC (.int 1)) (cApp (nD 2 f__law_roll) (cCons (cVar 0) (cCons (cVar 4) cNil)))) (cC (.int 0)))) (gN 8) (sSeq (sSet (gN 9) (cApp tupleD (cCons (cLC [10] false (cRng1 (cVar 1)) (lt1 (gN 10) tYesD (cBin subD (cApp (nD 3 f__law_wont) (cCons (cVar 0) (cCons (cC (.str "pour")) (cCons (cBin addD (cBin mulD (cC (.int 2)) (cVar 3)) (cC (.int 1))) cNil)))) (cVar 3)))) cNil)))
  (sExpr (cM apnd (cVar 7) (cCons (cApp mkTup (cCons (cBin addD (cBin ixD (cC (.str "abcxyz")) (cApp (nD 2 f__law_roll) (cCons (cVar 0) (cCons (cC (.int 6)) cNil)))) (cApp strD (cCons (cVar 8) cNil))) (cCons (cVar 9) (cCons (cApp (nD 2 f__law_roll) (cCons (cVar 0) (cCons (cVar 2) cNil))) cNil)))) cNil)))))
  (sExpr (cM apnd (cVar 5) (cCons (cApp mkTup (cCons (cBin ixD (cApp mkTup (cCons (cC (.str "outside")) (cCons (cC (.str "house")) cNil))) (cApp (nD 2 f__law_roll) (cCons (cVar 0) (cCons (cC (.int 2)) cNil)))) (cCons (cApp tupleD (cCons (cVar 7) cNil)) cNil))) cNil))))))
  (sRet (cApp mkTup (cCons (cVar 1) (cCons (cApp tupleD (cCons (cVar 5) cNil)) cNil))))))
noncomputable def f__law_book : DF := callF 11 c__law_book
noncomputable def c_order_levels : DS := (sSeq (sFor (cRng1 (cBin addD (cC (.int 60)) (cC (.int 1)))) (gN 4) (sSeq (sSet (gN 5) (cApp tupleD (cCons (cLC [6] false (cRng1 (cBin ixD (cVar 0) (cC (.int 0)))) (lt1 (gN 6) tYesD (cVar 4))) cNil)))
  (sIf (cB (cBin isND (cApp (nD 5 f_beaten_within) (cCons (cVar 0) (cCons (cVar 1) (cCons (cVar 5) (cCons (cVar 2) (cCons (cVar 3) cNil)))))) (cC .non))) (sRet (cVar 4)) sNext)))
  (sRet (cC .non)))
noncomputable def f_order_levels : DF := callF 7 c_order_levels
noncomputable def c__law_alike (R : DF) : DS := (sSeq (sIf (cB (cUn (isiD "tuple") (cVar 1))) (sSeq (sIf (cOr (cNot (cB (cUn (isiD "tuple") (cVar 0)))) (cB (cBin neD (cApp lenD (cCons (cVar 0) cNil)) (cApp lenD (cCons (cVar 1) cNil))))) (sRet (cC (.bl false))) sNext)
  (sSeq (sFor (cRng1 (cApp lenD (cCons (cVar 1) cNil))) (gN 2) (sIf (cNot (cB (cApp (nD 2 R) (cCons (cBin ixD (cVar 0) (cVar 2)) (cCons (cBin ixD (cVar 1) (cVar 2)) cNil))))) (sRet (cC (.bl false))) sNext))
  (sRet (cC (.bl true))))) sNext)
  (sSeq (sIf (cOr (cB (cBin isND (cVar 1) (cC .non))) (cB (cUn (isiD "bool") (cVar 1)))) (sRet (cIf (cB (cBin isND (cVar 1) (cC .non))) (cBin isND (cVar 0) (cC .non)) (cAndV (cUn (isiD "bool") (cVar 0)) (cBin eqD (cVar 0) (cVar 1))))) sNext)
  (sSeq (sIf (cB (cUn (isiD "int") (cVar 1))) (sRet (cAndV (cUn (isiD "int") (cVar 0)) (cAndV (cNotV (cUn (isiD "bool") (cVar 0))) (cBin eqD (cVar 0) (cVar 1))))) sNext)
  (sRet (cAndV (cUn (isiD "str") (cVar 0)) (cBin eqD (cVar 0) (cVar 1)))))))
noncomputable def fr__law_alike : Nat → DF
  | 0 => fun _ _ => none
  | n + 1 => callF 3 (c__law_alike (fr__law_alike n))
noncomputable abbrev f__law_alike : DF := fr__law_alike 4
noncomputable def c__law_wide : DS := (sSeq (sIf (cB (cBin eqD (cApp (nD 2 f__law_roll) (cCons (cVar 0) (cCons (cC (.int 2)) cNil))) (cC (.int 0)))) (sSeq (sSet (gN 1) (cBin addD (cC (.int 61)) (cApp (nD 2 f__law_roll) (cCons (cVar 0) (cCons (cC (.int 900)) cNil)))))
  (sSeq (sSet (gN 2) (cApp mkTup (cCons (cC (.int 1)) (cCons (cApp mkTup (cCons (cApp mkTup (cCons (cC (.str "outside")) (cCons (cApp mkTup (cCons (cApp mkTup (cCons (cC (.str "a")) (cCons (cApp mkTup (cCons (cBin subD (cC (.int 0)) (cVar 1)) cNil)) (cCons (cC (.int 0)) cNil)))) (cCons (cApp mkTup (cCons (cC (.str "b")) (cCons (cApp mkTup (cCons (cC (.int 0)) cNil)) (cCons (cC (.int 0)) cNil)))) cNil))) cNil))) cNil)) cNil))))
  (sSeq (sIf (cOr (cB (cBin notND (cApp (nD 4 f_order_levels) (cCons (cVar 2) (cCons (cC (.int 0)) (cCons (cApp mkTup (cCons (cApp mkTup cNil) cNil)) (cCons (cC (.int 1)) cNil))))) (cC .non))) (cNot (cB (cApp (nD 2 f__law_alike) (cCons (cApp (nD 4 f_order_levels) (cCons (cVar 2) (cCons (cC (.int 0)) (cCons (cApp mkTup (cCons (cApp mkTup cNil) cNil)) (cCons (cC (.int 0)) cNil))))) (cCons (cC (.int 0)) cNil)))))) (sRet (cC (.bl false))) sNext)
  (sSeq (sSet (gN 3) (cBin addD (cC (.int 1)) (cApp (nD 2 f__law_roll) (cCons (cVar 0) (cCons (cC (.int 60)) cNil)))))
  (sSeq (sSet (gN 2) (cApp mkTup (cCons (cC (.int 1)) (cCons (cApp mkTup (cCons (cApp mkTup (cCons (cC (.str "outside")) (cCons (cApp mkTup (cCons (cApp mkTup (cCons (cC (.str "b")) (cCons (cApp mkTup (cCons (cC (.int 0)) cNil)) (cCons (cC (.int 0)) cNil)))) (cCons (cApp mkTup (cCons (cC (.str "a")) (cCons (cApp mkTup (cCons (cBin subD (cC (.int 0)) (cVar 3)) cNil)) (cCons (cC (.int 0)) cNil)))) cNil))) cNil))) cNil)) cNil))))
  (sRet (cAndV (cApp (nD 2 f__law_alike) (cCons (cApp (nD 4 f_order_levels) (cCons (cVar 2) (cCons (cC (.int 0)) (cCons (cApp mkTup (cCons (cApp mkTup cNil) cNil)) (cCons (cC (.int 1)) cNil))))) (cCons (cVar 3) cNil))) (cApp (nD 5 f__law_beaten) (cCons (cVar 2) (cCons (cC (.int 0)) (cCons (cApp mkTup (cCons (cBin mulD (cC (.int 39)) (cVar 3)) cNil)) (cCons (cApp mkTup (cCons (cApp mkTup cNil) cNil)) (cCons (cC (.int 40)) cNil))))))))))))) sNext)
  (sSeq (sSet (gN 2) (cApp (nD 5 f__law_book) (cCons (cVar 0) (cCons (cC (.int 1)) (cCons (cC (.int 12)) (cCons (cC (.int 2)) (cCons (cC (.int 3)) cNil)))))))
  (sSeq (sSet (gN 4) (cApp (nD 2 f__law_order) (cCons (cVar 0) (cCons (cVar 2) cNil))))
  (sRet (cApp (nD 5 f__law_beaten) (cCons (cVar 2) (cCons (cApp (nD 2 f__law_roll) (cCons (cVar 0) (cCons (cC (.int 12)) cNil))) (cCons (cApp mkTup (cCons (cBin addD (cC (.int 3)) (cApp (nD 2 f__law_roll) (cCons (cVar 0) (cCons (cC (.int 9)) cNil)))) cNil)) (cCons (cVar 4) (cCons (cC (.int 40)) cNil))))))))))
noncomputable def f__law_wide : DF := callF 5 c__law_wide
noncomputable def c__law_enough : DS := (sSeq (sSet (gN 5) (cC .non))
  (sSeq (sFor (cRng1 (cBin addD (cApp min2D (cCons (cC (.int 60)) (cCons (cVar 4) cNil))) (cC (.int 1)))) (gN 6) (sSeq (sSet (gN 7) (cApp (nD 6 f__law_fewest) (cCons (cVar 0) (cCons (cVar 1) (cCons (cBin repD (cApp mkTup (cCons (cVar 6) cNil)) (cBin ixD (cVar 0) (cC (.int 0)))) (cCons (cVar 2) (cCons (cVar 3) (cCons (cC .non) cNil))))))))
  (sSeq (sIf (cAnd (cB (cBin notND (cVar 7) (cC .non))) (cB (cBin ltD (cVar 7) (cC (.int 0))))) (sRet (cC (.bl true))) sNext)
  (sIf (cB (cBin isND (cVar 7) (cC .non))) (sSeq (sSet (gN 5) (cVar 6))
  sBreak) sNext))))
  (sRet (cApp (nD 2 f__law_alike) (cCons (cApp (nD 4 f_order_levels) (cCons (cVar 0) (cCons (cVar 1) (cCons (cVar 2) (cCons (cVar 3) cNil))))) (cCons (cVar 5) cNil))))))
noncomputable def f__law_enough : DF := callF 8 c__law_enough
noncomputable def c__law_asked : DS := (sSeq (sSet (gN 3) (cApp (nD 2 f__law_order) (cCons (cVar 0) (cCons (cVar 1) cNil))))
  (sSeq (sSet (gN 4) (cApp (nD 2 f__law_roll) (cCons (cVar 0) (cCons (cApp lenD (cCons (cBin ixD (cVar 1) (cC (.int 1))) cNil)) cNil))))
  (sSeq (sFor (cRng1 (cC (.int 3))) (gN 5) (sSeq (sSet (gN 6) (cApp tupleD (cCons (cLC [9] false (cRng1 (cBin ixD (cVar 1) (cC (.int 0)))) (lt1 (gN 9) tYesD (cApp (nD 3 f__law_wont) (cCons (cVar 0) (cCons (cC (.str "level")) (cCons (cC (.int 5)) cNil)))))) cNil)))
  (sIf (cNot (cB (cApp (nD 5 f__law_beaten) (cCons (cVar 1) (cCons (cVar 4) (cCons (cVar 6) (cCons (cVar 3) (cCons (cApp (nD 2 f__law_roll) (cCons (cVar 0) (cCons (cBin addD (cVar 2) (cC (.int 1))) cNil))) cNil)))))))) (sRet (cC (.bl false))) sNext)))
  (sSeq (sSet (gN 7) (cApp (nD 6 f__law_fewest) (cCons (cVar 1) (cCons (cVar 4) (cCons (cVar 6) (cCons (cVar 3) (cCons (cVar 2) (cCons (cC .non) cNil))))))))
  (sSeq (sIf (cAnd (cB (cBin notND (cVar 7) (cC .non))) (cB (cBin gtD (cVar 7) (cC (.int 0))))) (sIf (cOr (cNot (cB (cApp (nD 5 f__law_beaten) (cCons (cVar 1) (cCons (cVar 4) (cCons (cVar 6) (cCons (cVar 3) (cCons (cVar 7) cNil)))))))) (cNot (cB (cApp (nD 5 f__law_beaten) (cCons (cVar 1) (cCons (cVar 4) (cCons (cVar 6) (cCons (cVar 3) (cCons (cBin subD (cVar 7) (cC (.int 1))) cNil))))))))) (sRet (cC (.bl false))) sNext) sNext)
  (sSeq (sSet (gN 8) (cApp (nD 2 f__law_roll) (cCons (cVar 0) (cCons (cBin addD (cC (.int 1)) (cBin fdivD (cVar 2) (cC (.int 2)))) cNil))))
  (sRet (cApp (nD 5 f__law_enough) (cCons (cVar 1) (cCons (cVar 4) (cCons (cVar 3) (cCons (cVar 8) (cCons (cBin mulD (cC (.int 3)) (cVar 8)) cNil)))))))))))))
noncomputable def f__law_asked : DF := callF 10 c__law_asked
noncomputable def c_worth_by : DS := (sSeq (sIf (cB (cBin eqD (cVar 0) (cC (.str "highest")))) (sRet (cApp sum3D (cCons (cVar 1) cNil))) sNext)
  (sRet (cIf (cB (cBin eqD (cVar 0) (cC (.str "even")))) (cApp min2D (cCons (cVar 1) cNil)) (cC (.int 0)))))
noncomputable def f_worth_by : DF := callF 2 c_worth_by
noncomputable def c_rule_move : DS := (sSeq (sSet (gN 4) (cC .non))
  (sSeq (sFor (cEnum (cApp (nD 2 f_moves_of) (cCons (cVar 0) (cCons (cVar 2) cNil)))) (gT 2 (gsCons (gN 5) (gsCons (gN 6) gsNil))) (sSeq (sSet (gN 7) (cApp (nD 2 f_poured) (cCons (cVar 3) (cCons (cBin ixD (cVar 6) (cC (.int 1))) cNil))))
  (sIf (cNot (cB (cApp (nD 1 f_is_dry) (cCons (cVar 7) cNil)))) (sSeq (sSet (gN 8) (cApp (nD 2 f_worth_by) (cCons (cVar 1) (cCons (cVar 7) cNil))))
  (sIf (cOr (cB (cBin isND (cVar 4) (cC .non))) (cB (cBin gtD (cVar 8) (cBin ixD (cVar 4) (cC (.int 0)))))) (sSet (gN 4) (cApp mkTup (cCons (cVar 8) (cCons (cVar 5) cNil)))) sNext)) sNext)))
  (sRet (cIf (cB (cBin isND (cVar 4) (cC .non))) (cC (.int 0)) (cBin ixD (cVar 4) (cC (.int 1)))))))
noncomputable def f_rule_move : DF := callF 9 c_rule_move
noncomputable def c_numbers_by : DS := (sSeq (sSet (gT 2 (gsCons (gN 3) (gsCons (gN 4) gsNil))) (cVar 2))
  (sSeq (sIf (cB (cApp (nD 2 f_is_rest) (cCons (cVar 0) (cCons (cVar 3) cNil)))) (sRet (cApp mkLst cNil)) sNext)
  (sSeq (sIf (cB (cBin eqD (cApp (nD 2 f_owner_of) (cCons (cVar 0) (cCons (cVar 3) cNil))) (cC (.str "house")))) (sRet (cApp mkLst (cCons (cApp (nD 4 f_rule_move) (cCons (cVar 0) (cCons (cVar 1) (cCons (cVar 3) (cCons (cVar 4) cNil))))) cNil))) sNext)
  (sRet (cListRg false (cC (.int 0)) (cApp lenD (cCons (cApp (nD 2 f_moves_of) (cCons (cVar 0) (cCons (cVar 3) cNil))) cNil)))))))
noncomputable def f_numbers_by : DF := callF 5 c_numbers_by
noncomputable def c_lesser_of : DS := (sRet (cApp tupleD (cCons (cLC [2, 3] false (cZip (cVar 0) (cVar 1)) (lt1 (gT 2 (gsCons (gN 2) (gsCons (gN 3) gsNil))) tYesD (cApp min2D (cCons (cVar 2) (cCons (cVar 3) cNil))))) cNil)))
noncomputable def f_lesser_of : DF := callF 4 c_lesser_of
noncomputable def c_rule_dries : DS := (sSeq (sSet (gN 5) (cDisp true (cApp mkTup (cCons (cVar 1) (cCons (cVar 2) cNil))) (cC .non)))
  (sSeq (sSet (gN 6) (cApp mkBox (cCons (cApp mkTup (cCons (cVar 1) (cCons (cVar 2) cNil))) cNil)))
  (sSeq (sSet (gN 7) (cC (.int 0)))
  (sSeq (sWhile (cB (cBin ltD (cVar 7) (cApp lenD (cCons (cVar 6) cNil)))) (sSeq (sSet (gN 8) (cBin ixD (cVar 6) (cVar 7)))
  (sSeq (sAug 7 iaddD (cC (.int 1)))
  (sFor (cItS (cApp (nD 3 f_numbers_by) (cCons (cVar 0) (cCons (cVar 4) (cCons (cVar 8) cNil))))) (gN 9) (sSeq (sSet (gT 3 (gsCons (gN 10) (gsCons (gN 11) (gsCons (gN 12) gsNil)))) (cBin ixD (cApp (nD 2 f_moves_of) (cCons (cVar 0) (cCons (cBin ixD (cVar 8) (cC (.int 0))) cNil))) (cVar 9)))
  (sSeq (sSet (gN 13) (cApp (nD 2 f_poured) (cCons (cBin ixD (cVar 8) (cC (.int 1))) (cCons (cVar 11) cNil))))
  (sSeq (sIf (cB (cApp (nD 1 f_is_dry) (cCons (cVar 13) cNil))) (sRet (cBin addD (cApp (nD 2 f_led_back) (cCons (cVar 5) (cCons (cVar 8) cNil))) (cApp mkTup (cCons (cVar 9) cNil)))) sNext)
  (sSeq (sSet (gN 14) (cApp mkTup (cCons (cVar 12) (cCons (cApp (nD 2 f_lesser_of) (cCons (cVar 13) (cCons (cVar 3) cNil))) cNil))))
  (sIf (cB (cBin dNotInD (cVar 14) (cVar 5))) (sSeq (sDPutC (cVar 5) (cVar 14) (cApp mkTup (cCons (cVar 8) (cCons (cVar 9) cNil))))
  (sExpr (cM apnd (cVar 6) (cCons (cVar 14) cNil)))) sNext)))))))))
  (sRet (cC .non))))))
noncomputable def f_rule_dries : DF := callF 15 c_rule_dries
noncomputable def c_rule_keeps : DS := (sRet (cBin isND (cApp (nD 5 f_rule_dries) (cCons (cVar 0) (cCons (cVar 1) (cCons (cVar 2) (cCons (cVar 3) (cCons (cVar 4) cNil)))))) (cC .non)))
noncomputable def f_rule_keeps : DF := callF 5 c_rule_keeps
noncomputable def c__law_rules : DS := (sSeq (sSet (gN 2) (cBin ixD (cApp mkTup (cCons (cC (.str "first")) (cCons (cC (.str "highest")) (cCons (cC (.str "even")) cNil)))) (cApp (nD 2 f__law_roll) (cCons (cVar 0) (cCons (cC (.int 3)) cNil)))))
  (sSeq (sSet (gN 3) (cApp tupleD (cCons (cLC [11] false (cRng1 (cBin ixD (cVar 1) (cC (.int 0)))) (lt1 (gN 11) tYesD (cApp (nD 3 f__law_wont) (cCons (cVar 0) (cCons (cC (.str "size")) (cCons (cIf (cB (cBin eqD (cBin ixD (cVar 1) (cC (.int 0))) (cC (.int 1)))) (cC (.int 7)) (cC (.int 4))) cNil)))))) cNil)))
  (sSeq (sFor (cRng1 (cC (.int 2))) (gN 4) (sSeq (sSet (gN 5) (cApp (nD 2 f__law_roll) (cCons (cVar 0) (cCons (cApp lenD (cCons (cBin ixD (cVar 1) (cC (.int 1))) cNil)) cNil))))
  (sSeq (sSet (gN 6) (cApp tupleD (cCons (cLC [12] false (cItS (cVar 3)) (lt1 (gN 12) tYesD (cApp (nD 2 f__law_roll) (cCons (cVar 0) (cCons (cBin addD (cVar 12) (cC (.int 1))) cNil))))) cNil)))
  (sSeq (sSet (gT 2 (gsCons (gN 7) (gsCons (gN 8) gsNil))) (cBin ixD (cBin ixD (cVar 1) (cC (.int 1))) (cVar 5)))
  (sSeq (sIf (cAnd (cB (cBin eqD (cVar 7) (cC (.str "house")))) (cAnd (cB (cBin gtD (cApp lenD (cCons (cVar 8) cNil)) (cC (.int 0)))) (cNot (cB (cApp (nD 2 f__law_alike) (cCons (cApp (nD 4 f_rule_move) (cCons (cVar 1) (cCons (cVar 2) (cCons (cVar 5) (cCons (cVar 6) cNil))))) (cCons (cApp (nD 3 f__law_ruled) (cCons (cVar 8) (cCons (cVar 2) (cCons (cVar 6) cNil)))) cNil))))))) (sRet (cC (.bl false))) sNext)
  (sSeq (sSet (gN 9) (cApp (nD 6 f__law_fewest) (cCons (cVar 1) (cCons (cVar 5) (cCons (cVar 6) (cCons (cVar 2) (cCons (cC (.int 400)) (cCons (cVar 3) cNil))))))))
  (sSeq (sIf (cNot (cB (cApp (nD 2 f__law_alike) (cCons (cApp (nD 5 f_rule_keeps) (cCons (cVar 1) (cCons (cVar 5) (cCons (cVar 6) (cCons (cVar 3) (cCons (cVar 2) cNil)))))) (cCons (cBin isND (cVar 9) (cC .non)) cNil))))) (sRet (cC (.bl false))) sNext)
  (sSeq (sSet (gN 10) (cApp (nD 5 f_rule_dries) (cCons (cVar 1) (cCons (cVar 5) (cCons (cVar 6) (cCons (cVar 3) (cCons (cVar 2) cNil)))))))
  (sIf (cOr (cAnd (cB (cBin isND (cVar 9) (cC .non))) (cB (cBin notND (cVar 10) (cC .non)))) (cAnd (cB (cBin notND (cVar 9) (cC .non))) (cNot (cB (cApp (nD 7 f__law_right) (cCons (cVar 1) (cCons (cVar 5) (cCons (cVar 6) (cCons (cVar 2) (cCons (cVar 10) (cCons (cVar 9) (cCons (cVar 3) cNil)))))))))))) (sRet (cC (.bl false))) sNext)))))))))
  (sRet (cC (.bl true))))))
noncomputable def f__law_rules : DF := callF 13 c__law_rules
noncomputable def c__law_pump : DS := (sSeq (sSet (gN 1) (cBin addD (cC (.int 1)) (cApp (nD 2 f__law_roll) (cCons (cVar 0) (cCons (cC (.int 3)) cNil)))))
  (sSeq (sSet (gN 2) (cBin addD (cVar 1) (cApp (nD 2 f__law_roll) (cCons (cVar 0) (cCons (cC (.int 3)) cNil)))))
  (sSeq (sSet (gN 3) (cApp (nD 2 f__law_roll) (cCons (cVar 0) (cCons (cC (.int 2)) cNil))))
  (sSeq (sSet (gN 4) (cApp mkTup (cCons (cC (.int 2)) (cCons (cApp mkTup (cCons (cApp mkTup (cCons (cC (.str "outside")) (cCons (cApp mkTup (cCons (cApp mkTup (cCons (cC (.str "a")) (cCons (cApp mkTup (cCons (cBin subD (cC (.int 0)) (cVar 1)) (cCons (cC (.int 0)) cNil))) (cCons (cC (.int 1)) cNil)))) (cCons (cApp mkTup (cCons (cC (.str "b")) (cCons (cApp mkTup (cCons (cC (.int 0)) (cCons (cBin subD (cC (.int 0)) (cVar 1)) cNil))) (cCons (cC (.int 1)) cNil)))) cNil))) cNil))) (cCons (cApp mkTup (cCons (cC (.str "house")) (cCons (cApp mkTup (cCons (cApp mkTup (cCons (cC (.str "x")) (cCons (cApp mkTup (cCons (cVar 2) (cCons (cC (.int 0)) cNil))) (cCons (cC (.int 0)) cNil)))) (cCons (cApp mkTup (cCons (cC (.str "y")) (cCons (cApp mkTup (cCons (cC (.int 0)) (cCons (cVar 2) cNil))) (cCons (cC (.int 0)) cNil)))) cNil))) cNil))) cNil))) cNil))))
  (sSeq (sSet (gN 5) (cApp mkTup (cCons (cApp mkTup cNil) (cCons (cApp mkTup (cCons (cVar 3) (cCons (cBin subD (cC (.int 1)) (cVar 3)) cNil))) cNil))))
  (sSeq (sSet (gN 6) (cBin addD (cVar 1) (cApp (nD 2 f__law_roll) (cCons (cVar 0) (cCons (cBin mulD (cC (.int 2)) (cVar 1)) cNil)))))
  (sSeq (sSet (gN 7) (cBin addD (cBin mulD (cC (.int 2)) (cBin fdivD (cVar 6) (cVar 1))) (cC (.int 1))))
  (sSeq (sSet (gN 8) (cApp mkTup (cCons (cVar 6) (cCons (cVar 6) cNil))))
  (sSeq (sIf (cNot (cB (cApp (nD 7 f__law_right) (cCons (cVar 4) (cCons (cC (.int 0)) (cCons (cVar 8) (cCons (cVar 5) (cCons (cApp (nD 5 f_beaten_within) (cCons (cVar 4) (cCons (cC (.int 0)) (cCons (cVar 8) (cCons (cVar 5) (cCons (cBin addD (cVar 7) (cApp (nD 2 f__law_roll) (cCons (cVar 0) (cCons (cC (.int 3)) cNil)))) cNil)))))) (cCons (cVar 7) (cCons (cC .non) cNil)))))))))) (sRet (cC (.bl false))) sNext)
  (sSeq (sIf (cB (cBin notND (cApp (nD 5 f_beaten_within) (cCons (cVar 4) (cCons (cC (.int 0)) (cCons (cVar 8) (cCons (cVar 5) (cCons (cBin subD (cVar 7) (cC (.int 1))) cNil)))))) (cC .non))) (sRet (cC (.bl false))) sNext)
  (sSeq (sSet (gN 9) (cApp mkTup (cCons (cBin addD (cVar 6) (cVar 2)) (cCons (cBin addD (cVar 6) (cVar 2)) cNil))))
  (sSeq (sFor (cItS (cApp mkTup (cCons (cC (.str "even")) (cCons (cC (.str "highest")) (cCons (cC (.str "first")) cNil))))) (gN 10) (sIf (cOr (cNot (cB (cApp (nD 2 f__law_alike) (cCons (cApp (nD 5 f_rule_keeps) (cCons (cVar 4) (cCons (cC (.int 0)) (cCons (cVar 8) (cCons (cVar 9) (cCons (cVar 10) cNil)))))) (cCons (cBin eqD (cVar 10) (cC (.str "even"))) cNil))))) (cB (cBin neD (cBin isND (cApp (nD 5 f_rule_dries) (cCons (cVar 4) (cCons (cC (.int 0)) (cCons (cVar 8) (cCons (cVar 9) (cCons (cVar 10) cNil)))))) (cC .non)) (cBin eqD (cVar 10) (cC (.str "even")))))) (sRet (cC (.bl false))) sNext))
  (sSeq (sSet (gN 11) (cBin addD (cC (.int 1)) (cApp (nD 2 f__law_roll) (cCons (cVar 0) (cCons (cC (.int 7)) cNil)))))
  (sRet (cApp (nD 2 f__law_alike) (cCons (cApp (nD 4 f_order_levels) (cCons (cVar 4) (cCons (cC (.int 0)) (cCons (cVar 5) (cCons (cVar 11) cNil))))) (cCons (cBin mulD (cVar 1) (cBin fdivD (cBin addD (cVar 11) (cC (.int 1))) (cC (.int 2)))) cNil)))))))))))))))))
noncomputable def f__law_pump : DF := callF 12 c__law_pump
noncomputable def c__law_thrift : DS := (sSeq (sSet (gN 1) (cBin addD (cC (.int 1)) (cApp (nD 2 f__law_roll) (cCons (cVar 0) (cCons (cC (.int 4)) cNil)))))
  (sSeq (sSet (gN 2) (cApp mkTup (cCons (cC (.int 1)) (cCons (cApp mkTup (cCons (cApp mkTup (cCons (cC (.str "house")) (cCons (cApp mkTup (cCons (cApp mkTup (cCons (cC (.str "use")) (cCons (cApp mkTup (cCons (cBin subD (cC (.int 0)) (cVar 1)) cNil)) (cCons (cC (.int 1)) cNil)))) (cCons (cApp mkTup (cCons (cC (.str "fill")) (cCons (cApp mkTup (cCons (cC (.int 1)) cNil)) (cCons (cC (.int 1)) cNil)))) cNil))) cNil))) (cCons (cApp mkTup (cCons (cC (.str "outside")) (cCons (cApp mkTup (cCons (cApp mkTup (cCons (cC (.str "draw")) (cCons (cApp mkTup (cCons (cUn negD (cC (.int 1))) cNil)) (cCons (cC (.int 0)) cNil)))) (cCons (cApp mkTup (cCons (cC (.str "none")) (cCons (cApp mkTup (cCons (cC (.int 0)) cNil)) (cCons (cC (.int 0)) cNil)))) cNil))) cNil))) cNil))) cNil))))
  (sSeq (sSet (gN 3) (cBin addD (cC (.int 1)) (cApp (nD 2 f__law_roll) (cCons (cVar 0) (cCons (cC (.int 9)) cNil)))))
  (sSeq (sFor (cItS (cApp mkTup (cCons (cApp mkTup (cCons (cApp mkTup (cCons (cC (.int 0)) (cCons (cC (.int 1)) cNil))) (cCons (cApp mkTup cNil) cNil))) (cCons (cApp mkTup (cCons (cApp mkTup (cCons (cC (.int 1)) (cCons (cC (.int 0)) cNil))) (cCons (cApp mkTup cNil) cNil))) cNil)))) (gN 4) (sIf (cOr (cNot (cB (cApp (nD 5 f__law_beaten) (cCons (cVar 2) (cCons (cC (.int 0)) (cCons (cApp mkTup (cCons (cVar 3) cNil)) (cCons (cVar 4) (cCons (cC (.int 12)) cNil)))))))) (cNot (cB (cApp (nD 5 f__law_enough) (cCons (cVar 2) (cCons (cC (.int 0)) (cCons (cVar 4) (cCons (cApp (nD 2 f__law_roll) (cCons (cVar 0) (cCons (cC (.int 6)) cNil))) (cCons (cC (.int 61)) cNil))))))))) (sRet (cC (.bl false))) sNext))
  (sSeq (sSet (gN 5) (cApp (nD 5 f_beaten_within) (cCons (cVar 2) (cCons (cC (.int 0)) (cCons (cApp mkTup (cCons (cVar 3) cNil)) (cCons (cApp mkTup (cCons (cApp mkTup (cCons (cC (.int 1)) (cCons (cC (.int 0)) cNil))) (cCons (cApp mkTup cNil) cNil))) (cCons (cC (.int 12)) cNil)))))))
  (sRet (cAndV (cBin isND (cVar 5) (cC .non)) (cApp (nD 2 f__law_alike) (cCons (cApp (nD 4 f_order_levels) (cCons (cVar 2) (cCons (cC (.int 0)) (cCons (cApp mkTup (cCons (cApp mkTup (cCons (cC (.int 1)) (cCons (cC (.int 0)) cNil))) (cCons (cApp mkTup cNil) cNil))) (cCons (cC (.int 9)) cNil))))) (cCons (cC (.int 0)) cNil))))))))))
noncomputable def f__law_thrift : DF := callF 6 c__law_thrift
noncomputable def c__law_spool : DS := (sSeq (sSet (gN 1) (cDispK [((cC (.str "figures")), (cApp mkBox cNil)), ((cC (.str "place")), (cC (.int 0))), ((cC (.str "mix")), (cC (.int 8419)))]))
  (sSeq (sFor (cItS (cSl false (cVar 0) oNo (oSome (cC (.int 40))))) (gN 2) (sSeq (sSet (gN 3) (cApp absD (cCons (cApp intD (cCons (cVar 2) cNil)) cNil)))
  (sSeq (sDPutC (cVar 1) (cC (.str "mix")) (cBin modD (cApp intD (cCons (cBin addD (cBin addD (cBin mulD (cBin dGetD (cVar 1) (cC (.str "mix"))) (cC (.int 48271))) (cBin modD (cApp intD (cCons (cVar 3) cNil)) (cC (.int 4294967291)))) (cC (.int 61))) cNil)) (cC (.int 2147483549))))
  (sSeq (sSet (gN 4) (cBin geD (cVar 3) (cBin powD (cC (.int 10)) (cC (.int 18)))))
  (sFor (cRng1 (cC (.int 70))) (gN 5) (sIf (cAnd (cTr (cVar 4)) (cB (cBin gtD (cVar 3) (cC (.int 0))))) (sSeq (sExpr (cM apnd (cBin dGetD (cVar 1) (cC (.str "figures"))) (cCons (cBin modD (cApp intD (cCons (cVar 3) cNil)) (cC (.int 2200))) cNil)))
  (sSet (gN 3) (cBin fdivD (cVar 3) (cC (.int 2200))))) sNext))))))
  (sRet (cVar 1))))
noncomputable def f__law_spool : DF := callFK 6 c__law_spool
noncomputable def c_law : DS := (sSeq (sSet (gN 1) (cApp (nD 1 f__law_spool) (cCons (cVar 0) cNil)))
  (sSeq (sIf (cOr (cNot (cB (cApp (nD 1 f__law_pump) (cCons (cVar 1) cNil)))) (cNot (cB (cApp (nD 1 f__law_thrift) (cCons (cVar 1) cNil))))) (sRet (cC (.bl false))) sNext)
  (sSeq (sFor (cRng1 (cC (.int 3))) (gN 2) (sSeq (sSet (gN 3) (cBin addD (cC (.int 1)) (cApp (nD 2 f__law_roll) (cCons (cVar 1) (cCons (cC (.int 2)) cNil)))))
  (sSeq (sSet (gN 4) (cApp (nD 5 f__law_book) (cCons (cVar 1) (cCons (cVar 3) (cCons (cBin addD (cC (.int 1)) (cApp (nD 2 f__law_roll) (cCons (cVar 1) (cCons (cC (.int 4)) cNil)))) (cCons (cC (.int 3)) (cCons (cC (.int 3)) cNil)))))))
  (sIf (cOr (cNot (cB (cApp (nD 3 f__law_asked) (cCons (cVar 1) (cCons (cVar 4) (cCons (cIf (cB (cBin eqD (cVar 3) (cC (.int 1)))) (cC (.int 8)) (cC (.int 6))) cNil)))))) (cNot (cB (cApp (nD 2 f__law_rules) (cCons (cVar 1) (cCons (cVar 4) cNil)))))) (sRet (cC (.bl false))) sNext))))
  (sRet (cOrV (cBin neD (cApp (nD 2 f__law_roll) (cCons (cVar 1) (cCons (cC (.int 11)) cNil))) (cC (.int 4))) (cApp (nD 1 f__law_wide) (cCons (cVar 1) cNil)))))))
noncomputable def f_law : DF := callF 5 c_law
end K84

/-! k84, the plain half: the small defs. -/
namespace K84
open PySem PySem.Spec PyProof.Rows L2 DL BK
theorem moves_ok {b : Bk} {s : Nat} {S : Store} (h : s < b.sts.length) : f_moves_of [eB b, .int s] S = some (.tup ((mvs b s).map eM), S) := by
  obtain ⟨x, hx, hm, ho⟩ := ixSt h
  refine call_rt0 ?_ (below_mvs _)
  simp [c_moves_of, sSeq, sSet, sRet, sExpr, sIf, gN, gT, gsCons, gsNil, cVar, cC, cBin, cUn, cNil, cCons, cApp, cB, cTr, cAnd, cOr, cNot, cV, cAndV, cOrV, cNotV, cIf, nD, mkTup, mkLst, mkBox, asQ, asL, negD, addD, subD, cmpD, isND, notND, eqD, neD, eqS, lenD, tupleD, DL.intD, cM, apnd, popM, sPar, sPar3, sNext, sAug, ipD, ixB1, hx, ixS1, hm]

theorem owner_ok {b : Bk} {s : Nat} {S : Store} (h : s < b.sts.length) : f_owner_of [eB b, .int s] S = some (.str (own b s), S) := by
  obtain ⟨x, hx, hm, ho⟩ := ixSt h
  refine call_rt0 ?_ rfl
  simp [c_owner_of, sSeq, sSet, sRet, sExpr, sIf, gN, gT, gsCons, gsNil, cVar, cC, cBin, cUn, cNil, cCons, cApp, cB, cTr, cAnd, cOr, cNot, cV, cAndV, cOrV, cNotV, cIf, nD, mkTup, mkLst, mkBox, asQ, asL, negD, addD, subD, cmpD, isND, notND, eqD, neD, eqS, lenD, tupleD, DL.intD, cM, apnd, popM, sPar, sPar3, sNext, sAug, ipD, ixB1, hx, ixS0, ho]

theorem rest_ok {b : Bk} {s : Nat} {S : Store} (h : s < b.sts.length) : f_is_rest [eB b, .int s] S = some (.bl (decide (mvs b s = [])), S) := by
  obtain ⟨x, hx, hm, ho⟩ := ixSt h
  refine call_rt0 ?_ rfl
  simp [c_is_rest, sSeq, sSet, sRet, sExpr, sIf, gN, gT, gsCons, gsNil, cVar, cC, cBin, cUn, cNil, cCons, cApp, cB, cTr, cAnd, cOr, cNot, cV, cAndV, cOrV, cNotV, cIf, nD, mkTup, mkLst, mkBox, asQ, asL, negD, addD, subD, cmpD, isND, notND, eqD, neD, eqS, lenD, tupleD, DL.intD, cM, apnd, popM, sPar, sPar3, sNext, sAug, ipD, ixB1, hx, ixS1, hm]

theorem poured_ok {l p : Lv} {S : Store} (h : l.length ≤ 100000) : f_poured [eL l, eL p] S = some (eL (add l p), S) := by
  refine call_rt0 ?_ (below_eL _)
  have hc := cLC_map (S := S) (ρ := [some (eL l), some (eL p), none, none]) (vs := [2, 3]) (ci := cZip (cVar 0) (cVar 1)) (g := gT 2 (gsCons (gN 2) (gsCons (gN 3) gsNil))) (e := cBin addD (cVar 2) (cVar 3))
    (l := l.zip p) (fun q => D.tup [.int q.1, .int q.2]) (fun q => .int (q.1 + q.2)) (xs := (l.zip p).map fun q => D.tup [.int q.1, .int q.2])
    (by simp [cZip, cVar, eL, itZip, zip_int]) rfl (small (by rw [List.length_zip]; omega))
    (fun q hq => ⟨_, by simp [gT, gsCons, gN, gsNil, wipeD]; rfl, by simp [cBin, cVar, addD]⟩)
  simp only [c_poured, sRet, cApp, cCons, cNil, List.map_cons, List.map_nil, List.length_cons, List.length_nil, List.replicate, Nat.reduceSub, List.cons_append, List.nil_append, Nat.reduceAdd, Nat.zero_add]
  rw [hc]
  have e : (l.zip p).map (fun q => D.int (q.1 + q.2)) = (add l p).map D.int := by
    unfold add
    rw [← zipWith_eq, List.map_map]
    rfl
  simp [tupleD, asQ, asL, e, eL]

theorem dry_ok {l : Lv} {S : Store} (h : l.length ≤ 100000) : f_is_dry [eL l] S = some (.bl (dry l), S) := by
  refine call_rt0 ?_ rfl
  have hc := cLC_map (S := S) (ρ := [some (eL l), none]) (vs := [1]) (ci := cItS (cVar 0)) (g := gN 1) (e := cBin ltD (cVar 1) (cC (.int 0)))
    (l := l) D.int (fun x => .bl (decide (x < 0))) (xs := l.map D.int)
    (by simp [cItS, cVar, eL, itSeq]) rfl (small h) (fun q hq => ⟨_, rfl, by simp [cBin, cVar, cC, wipeD, cmpD]⟩)
  simp only [c_is_dry, sRet, cApp, cCons, cNil, List.map_cons, List.map_nil, List.length_cons, List.length_nil, List.replicate, Nat.reduceSub, List.cons_append, List.nil_append, Nat.reduceAdd, Nat.zero_add]
  rw [hc]
  simp [anyD, asQ, asL, asBls_map, dry, List.any_map, Function.comp_def]

theorem lesser_ok {l p : Lv} {S : Store} (h : l.length ≤ 100000) : f_lesser_of [eL l, eL p] S = some (eL (List.zipWith min l p), S) := by
  refine call_rt0 ?_ (below_eL _)
  have hc := cLC_map (S := S) (ρ := [some (eL l), some (eL p), none, none]) (vs := [2, 3]) (ci := cZip (cVar 0) (cVar 1)) (g := gT 2 (gsCons (gN 2) (gsCons (gN 3) gsNil))) (e := cApp min2D (cCons (cVar 2) (cCons (cVar 3) cNil)))
    (l := l.zip p) (fun q => D.tup [.int q.1, .int q.2]) (fun q => .int (min q.1 q.2)) (xs := (l.zip p).map fun q => D.tup [.int q.1, .int q.2])
    (by simp [cZip, cVar, eL, itZip, zip_int]) rfl (small (by rw [List.length_zip]; omega))
    (fun q hq => ⟨_, by simp [gT, gsCons, gN, gsNil, wipeD]; rfl, by simp [cApp, cCons, cNil, cVar, min2D]⟩)
  simp only [c_lesser_of, sRet, cApp, cCons, cNil, List.map_cons, List.map_nil, List.length_cons, List.length_nil, List.replicate, Nat.reduceSub, List.cons_append, List.nil_append, Nat.reduceAdd, Nat.zero_add]
  rw [hc]
  have e : (l.zip p).map (fun q => D.int (min q.1 q.2)) = (List.zipWith min l p).map D.int := by
    rw [← zipWith_eq, List.map_map]
    rfl
  simp [tupleD, asQ, asL, e, eL]

theorem lpour_ok {l : Lv} {m : Mv} {S : Store} (h : l.length ≤ 100000) (hm : m.p.length = l.length) : f__law_poured [eL l, eM m] S = some (eL (add l m.p), S) := by
  refine call_rt0 ?_ (below_eL _)
  have hc := cLC_map (S := S) (ρ := [some (eL l), some (eM m), none]) (vs := [2]) (ci := cRng1 (cApp lenD (cCons (cVar 0) cNil))) (g := gN 2) (e := cBin addD (cBin ixD (cVar 0) (cVar 2)) (cBin ixD (cBin ixD (cVar 1) (cC (.int 1))) (cVar 2)))
    (l := List.range l.length) (fun i => D.int (i : Nat)) (fun t => .int (gt l t + gt m.p t)) (rng1 (n := l.length) (by simp [sSeq, sSet, sRet, sExpr, sIf, gN, gT, gsCons, gsNil, cVar, cC, cBin, cUn, cNil, cCons, cApp, cB, cTr, cAnd, cOr, cNot, cV, cAndV, cOrV, cNotV, cIf, nD, mkTup, mkLst, mkBox, asQ, asL, negD, addD, subD, cmpD, isND, notND, eqD, neD, eqS, lenD, tupleD, DL.intD, cM, apnd, popM, sPar, sPar3, sNext, sAug, ipD, eL]) (by omega)) rfl (small (by simpa using h))
    (fun q hq => ⟨_, rfl, by
      have h1 := List.mem_range.mp hq
      simp [sSeq, sSet, sRet, sExpr, sIf, gN, gT, gsCons, gsNil, cVar, cC, cBin, cUn, cNil, cCons, cApp, cB, cTr, cAnd, cOr, cNot, cV, cAndV, cOrV, cNotV, cIf, nD, mkTup, mkLst, mkBox, asQ, asL, negD, addD, subD, cmpD, isND, notND, eqD, neD, eqS, lenD, tupleD, DL.intD, cM, apnd, popM, sPar, sPar3, sNext, sAug, ipD, wipeD, ixL h1, ixM1, ixL (l := m.p) (t := q) (by omega)]⟩)
  rw [add_map rfl hm] at hc
  simp only [c__law_poured, sRet, cApp, cCons, cNil, List.map_cons, List.map_nil, List.length_cons, List.length_nil, List.replicate, Nat.reduceSub, List.cons_append, List.nil_append, Nat.reduceAdd, Nat.zero_add]
  rw [hc]
  simp [tupleD, asQ, asL, eL]

end K84

/-! k84, the plain half: what is drawn. -/
namespace K84
open PySem PySem.Spec PyProof.Rows L2 DL BK
theorem roll_ok' {figs : List Int} {p x : Int} {hb : Hab} {T : Store} {m : Int} (h : Sp (.lst (figs.map .int)) (spC p x hb)) (hm : 0 < m) : ∃ (v : Nat) (p' x' : Int), f__law_roll [.ref 1, .int m] (.lst (figs.map .int) :: spC p x hb :: T) = some (.int v, .lst (figs.map .int) :: spC p' x' hb :: T) ∧ Sp (.lst (figs.map .int)) (spC p' x' hb) ∧ (v : Int) < m := by
  obtain ⟨figs0, _, _, _, ef, hf, ec, hp, hx, hnd, hh⟩ := h.ex
  obtain ⟨rfl, rfl, rfl⟩ := spC_inj ec
  have hff : ∀ y ∈ figs, 0 ≤ y := by
    have : figs = figs0 := by
      injection ef with ef
      exact ints_inj ef
    rw [this]; exact hf
  clear hf ef ec figs0
  have hf := hff
  have hn : ∀ y ∈ hb, spN y.1 := fun y hy => (hh y hy).1
  have hlen : (spB p x ++ eH hb).length < 100000 := by
    have := hab_len hnd hn
    simp [spB, eH_len]
    omega
  have mk : (∃ (v : Nat) (p' x' : Int), Ev c__law_roll [some (.ref 1), some (.int m)] (.lst (figs.map .int) :: spC p x hb :: T) (fun f => ∃ T2, f = .rt (.int v) (.lst (figs.map .int) :: spC p' x' hb :: (T ++ T2))) ∧ 0 ≤ p' ∧ 0 ≤ x' ∧ (v : Int) < m) →
      ∃ (v : Nat) (p' x' : Int), f__law_roll [.ref 1, .int m] (.lst (figs.map .int) :: spC p x hb :: T) = some (.int v, .lst (figs.map .int) :: spC p' x' hb :: T) ∧ Sp (.lst (figs.map .int)) (spC p' x' hb) ∧ (v : Int) < m := by
    rintro ⟨v, p', x', e, h1, h2, h3⟩
    have hs : Sp (.lst (figs.map .int)) (spC p' x' hb) := ⟨figs, p', x', hb, rfl, hf, rfl, h1, h2, hnd, hh⟩
    exact ⟨v, p', x', call_sp hs rfl e, hs, h3⟩
  apply mk
  unfold c__law_roll
  have l1 : ∀ (n : Str) (d : D) (T : Store) (p x : Int) (hb : Hab), kLook (spB p x ++ eH hb) (.inr n) = some d → dGetD (.ref 1) (.str n) (.lst (figs.map .int) :: spC p x hb :: T) = some (d, .lst (figs.map .int) :: spC p x hb :: T) := fun n d T p x hb e => by
    unfold dGetD spC
    rw [look1, e]
  have hlt : ∀ T : Store, lenD [.ref 0] (.lst (figs.map .int) :: T) = some (.int figs.length, .lst (figs.map .int) :: T) := fun T => by simp [lenD, asQ, asL]
  by_cases hc : p < (figs.length : Int)
  · obtain ⟨i, rfl⟩ : ∃ i : Nat, p = i := ⟨p.toNat, by omega⟩
    have hi : i < figs.length := by omega
    have hix : ∀ T : Store, ixD (.ref 0) (.int i) (.lst (figs.map .int) :: T) = some (.int figs[i], .lst (figs.map .int) :: T) := fun T => by
      have : L2.atI (figs.map D.int) (i : Int) = some (.int figs[i]) := atI_nat (by simp [hi])
      simp [ixD, asQ, asL, this]
    have h1 : 0 ≤ figs[i] % m := Int.emod_nonneg _ (by omega)
    have h2 : figs[i] % m < m := Int.emod_lt_of_pos _ hm
    refine ⟨(figs[i] % m).toNat, i + 1, x, ?_, by omega, hx, by omega⟩
    refine Ev.seq (Ev.ifT (S' := .lst (figs.map .int) :: spC i x hb :: T) (by simp [sSeq, sSet, sRet, sExpr, sIf, gN, gT, gsCons, gsNil, cVar, cC, cBin, cUn, cNil, cCons, cApp, cB, cTr, cAnd, cOr, cNot, cV, cAndV, cOrV, cNotV, cIf, nD, mkTup, mkLst, mkBox, asQ, asL, negD, addD, subD, cmpD, isND, notND, eqD, neD, eqS, lenD, tupleD, DL.intD, cM, apnd, popM, sPar, sPar3, sNext, sAug, ipD, l1 _ _ T i x hb kP, l1 _ _ T i x hb kF, hlt, hc]) ?_)
    refine Ev.seq (Ev.dput (d := .int (i + 1)) (x := .ref 1) (y := .str "place") (S1 := .lst (figs.map .int) :: spC i x hb :: T) (S4 := .lst (figs.map .int) :: spC (i + 1) x hb :: T) (by simp [sSeq, sSet, sRet, sExpr, sIf, gN, gT, gsCons, gsNil, cVar, cC, cBin, cUn, cNil, cCons, cApp, cB, cTr, cAnd, cOr, cNot, cV, cAndV, cOrV, cNotV, cIf, nD, mkTup, mkLst, mkBox, asQ, asL, negD, addD, subD, cmpD, isND, notND, eqD, neD, eqS, lenD, tupleD, DL.intD, cM, apnd, popM, sPar, sPar3, sNext, sAug, ipD, l1 _ _ T i x hb kP]) rfl rfl ?_ ?_)
    · rw [show spC i x hb = .dK false (spB i x ++ eH hb) from rfl, put1 hlen, pP hn]
      rfl
    · have e1 : ((i : Int) + 1 - 1) = i := by omega
      refine Ev.ret (d := .int ((figs[i] % m).toNat : Nat)) (S' := .lst (figs.map .int) :: spC (i + 1) x hb :: T) ?_ ⟨[], by rw [List.append_nil]⟩
      simp [sSeq, sSet, sRet, sExpr, sIf, gN, gT, gsCons, gsNil, cVar, cC, cBin, cUn, cNil, cCons, cApp, cB, cTr, cAnd, cOr, cNot, cV, cAndV, cOrV, cNotV, cIf, nD, mkTup, mkLst, mkBox, asQ, asL, negD, addD, subD, cmpD, isND, notND, eqD, neD, eqS, lenD, tupleD, DL.intD, cM, apnd, popM, sPar, sPar3, sNext, sAug, ipD, l1 _ _ T (i + 1) x hb kP, l1 _ _ T (i + 1) x hb kF, e1, hix, mod_s hm] <;> omega
  · have e1 : 0 ≤ (x * 16807 + 4001) % 2147483647 := Int.emod_nonneg _ (by omega)
    have h1 : 0 ≤ ((x * 16807 + 4001) % 2147483647 / 127) % m := Int.emod_nonneg _ (by omega)
    have h2 : ((x * 16807 + 4001) % 2147483647 / 127) % m < m := Int.emod_lt_of_pos _ hm
    refine ⟨(((x * 16807 + 4001) % 2147483647 / 127) % m).toNat, p, (x * 16807 + 4001) % 2147483647, ?_, hp, e1, by omega⟩
    refine Ev.seq (Ev.ifF (S' := .lst (figs.map .int) :: spC p x hb :: T) (by simp [sSeq, sSet, sRet, sExpr, sIf, gN, gT, gsCons, gsNil, cVar, cC, cBin, cUn, cNil, cCons, cApp, cB, cTr, cAnd, cOr, cNot, cV, cAndV, cOrV, cNotV, cIf, nD, mkTup, mkLst, mkBox, asQ, asL, negD, addD, subD, cmpD, isND, notND, eqD, neD, eqS, lenD, tupleD, DL.intD, cM, apnd, popM, sPar, sPar3, sNext, sAug, ipD, l1 _ _ T p x hb kP, l1 _ _ T p x hb kF, hlt, hc] <;> omega) (Ev.next ?_))
    refine Ev.seq (Ev.dput (d := .int ((x * 16807 + 4001) % 2147483647)) (x := .ref 1) (y := .str "mix") (S1 := .lst (figs.map .int) :: spC p x hb :: T) (S4 := .lst (figs.map .int) :: spC p ((x * 16807 + 4001) % 2147483647) hb :: T)
      (by simp [sSeq, sSet, sRet, sExpr, sIf, gN, gT, gsCons, gsNil, cVar, cC, cBin, cUn, cNil, cCons, cApp, cB, cTr, cAnd, cOr, cNot, cV, cAndV, cOrV, cNotV, cIf, nD, mkTup, mkLst, mkBox, asQ, asL, negD, addD, subD, cmpD, isND, notND, eqD, neD, eqS, lenD, tupleD, DL.intD, cM, apnd, popM, sPar, sPar3, sNext, sAug, ipD, l1 _ _ T p x hb kM, mul_r (a := x) (b := 16807) (by omega) (by omega), mod_s (b := 2147483647) (by omega)]) rfl rfl ?_ ?_)
    · rw [show spC p x hb = .dK false (spB p x ++ eH hb) from rfl, put1 hlen, pM hn]
      rfl
    · generalize hx' : (x * 16807 + 4001) % 2147483647 = x' at e1 h1 h2
      refine Ev.ret (d := .int (((x' / 127) % m).toNat : Nat)) (S' := .lst (figs.map .int) :: spC p x' hb :: T) ?_ ⟨[], by rw [List.append_nil]⟩
      simp [sSeq, sSet, sRet, sExpr, sIf, gN, gT, gsCons, gsNil, cVar, cC, cBin, cUn, cNil, cCons, cApp, cB, cTr, cAnd, cOr, cNot, cV, cAndV, cOrV, cNotV, cIf, nD, mkTup, mkLst, mkBox, asQ, asL, negD, addD, subD, cmpD, isND, notND, eqD, neD, eqS, lenD, tupleD, DL.intD, cM, apnd, popM, sPar, sPar3, sNext, sAug, ipD, l1 _ _ T p x' hb kM, fdiv_s (a := x') (b := 127) (by omega) (by omega), mod_s hm] <;> omega
theorem roll_ok {F c : Cell} {T : Store} {m : Int} (h : Sp F c) (hm : 0 < m) : SpF f__law_roll [.ref 1, .int m] F c T fun d => ∃ v : Nat, d = .int v ∧ (v : Int) < m := by
  obtain ⟨figs, p, x, hb, rfl, _, rfl, _⟩ := h.ex
  obtain ⟨v, p', x', e, s, hv⟩ := roll_ok' (T := T) h hm
  exact ⟨_, _, e, s, v, rfl, hv⟩

theorem wont_ok {F c : Cell} {T : Store} {n : Str} {m : Int} (h : Sp F c) (hn : spN n) (hm : 0 < m) : SpF f__law_wont [.ref 1, .str n, .int m] F c T fun d => ∃ v : Nat, d = .int v ∧ (v : Int) < m := by
  refine spF_ev ?_
  unfold c__law_wont
  -- behind the first statement the habit is there
  have first : Ev (sIf (cB (cBin dNotInD (cVar 1) (cVar 0))) (sDPutC (cVar 0) (cVar 1) (cApp mkLst (cCons (cApp (nD 2 f__law_roll) (cCons (cVar 0) (cCons (cC (.int 6)) cNil))) (cCons (cApp (nD 2 f__law_roll) (cCons (cVar 0) (cCons (cVar 2) cNil))) cNil)))) sNext)
        [some (.ref 1), some (.str n), some (.int m), none] (F :: c :: T) (fun f => match f with | .nx ρ S => ρ = [some (.ref 1), some (.str n), some (.int m), none] ∧ ∃ c' a b p x hb, S = F :: c' :: T ∧ c' = spC p x hb ∧ Sp F c' ∧ kLook (spB p x ++ eH hb) (.inr n) = some (.lst [.int a, .int b]) ∧ 0 ≤ a ∧ 0 ≤ b | _ => False) := by
    obtain ⟨figs, p, x, hb, rfl, hf, rfl, hp, hx, hnd, hh⟩ := h.ex
    have hl : lookD (.lst (figs.map .int) :: spC p x hb :: T) (.ref 1) (.str n) = some (kLook (eH hb) (.inr n)) := by rw [← kH (p := p) (x := x) hn]; rfl
    cases hk : kLook (eH hb) (.inr n) with
    | some d =>
      obtain ⟨y, hy, rfl⟩ := kH_some hk
      exact Ev.ifF (S' := .lst (figs.map .int) :: spC p x hb :: T) (by simp [sSeq, sSet, sRet, sExpr, sIf, gN, gT, gsCons, gsNil, cVar, cC, cBin, cUn, cNil, cCons, cApp, cB, cTr, cAnd, cOr, cNot, cV, cAndV, cOrV, cNotV, cIf, nD, mkTup, mkLst, mkBox, asQ, asL, negD, addD, subD, cmpD, isND, notND, eqD, neD, eqS, lenD, tupleD, DL.intD, cM, apnd, popM, sPar, sPar3, sNext, sAug, ipD, dNotInD, hl, hk]) (Ev.next ⟨rfl, _, _, _, p, x, hb, rfl, rfl, h, by rw [kH hn]; exact hk, (hh y hy).2.1, (hh y hy).2.2⟩)
    | none =>
      refine Ev.ifT (S' := .lst (figs.map .int) :: spC p x hb :: T) (by simp [sSeq, sSet, sRet, sExpr, sIf, gN, gT, gsCons, gsNil, cVar, cC, cBin, cUn, cNil, cCons, cApp, cB, cTr, cAnd, cOr, cNot, cV, cAndV, cOrV, cNotV, cIf, nD, mkTup, mkLst, mkBox, asQ, asL, negD, addD, subD, cmpD, isND, notND, eqD, neD, eqS, lenD, tupleD, DL.intD, cM, apnd, popM, sPar, sPar3, sNext, sAug, ipD, dNotInD, hl, hk]) ?_
      obtain ⟨v1, p1, x1, e1, s1, b1⟩ := roll_ok' (T := T) (m := 6) h (by omega)
      obtain ⟨v2, p2, x2, e2, s2, b2⟩ := roll_ok' (T := T) (m := m) s1 hm
      obtain ⟨figs', p', x', hb', ef, hf', ec, hp', hx', hnd', hh'⟩ := s2.ex
      obtain ⟨rfl, rfl, rfl⟩ := spC_inj ec
      have hnn := kH_none hk
      have hlen : (spB p2 x2 ++ eH hb).length < 100000 := by
        have := hab_len hnd fun y hy => (hh y hy).1
        simp [spB, eH_len]
        omega
      have z2 : (2 : Nat) ≤ sizeLine := by rw [sizeLine_eq]; omega
      refine Ev.dput (d := .lst [.int v1, .int v2]) (x := .ref 1) (y := .str n) (S1 := .lst (figs.map .int) :: spC p2 x2 hb :: T) (S4 := .lst (figs.map .int) :: spC p2 x2 (hb ++ [(n, ((v1 : Nat) : Int), ((v2 : Nat) : Int))]) :: T) (by simp [sSeq, sSet, sRet, sExpr, sIf, gN, gT, gsCons, gsNil, cVar, cC, cBin, cUn, cNil, cCons, cApp, cB, cTr, cAnd, cOr, cNot, cV, cAndV, cOrV, cNotV, cIf, nD, mkTup, mkLst, mkBox, asQ, asL, negD, addD, subD, cmpD, isND, notND, eqD, neD, eqS, lenD, tupleD, DL.intD, cM, apnd, popM, sPar, sPar3, sNext, sAug, ipD, e1, e2, z2]) rfl rfl ?_ ?_
      · rw [show spC p2 x2 hb = .dK false (spB p2 x2 ++ eH hb) from rfl, put1 hlen, pH hn hk]
        rfl
      · refine ⟨rfl, _, v1, v2, p2, x2, _, rfl, rfl, ⟨figs, p2, x2, _, rfl, hf, rfl, hp', hx', ?_, fun y hy => ?_⟩, kH_new hn hk, by omega, by omega⟩
        · rw [List.map_append, List.nodup_append]
          refine ⟨hnd, by simp, fun y hy z hz => ?_⟩
          have : z = n := by simpa using hz
          rintro rfl
          rw [this] at hy
          exact hnn hy
        · rcases List.mem_append.mp hy with hy | hy
          · exact hh y hy
          · rw [List.mem_singleton.mp hy]
            exact ⟨hn, Int.natCast_nonneg _, Int.natCast_nonneg _⟩
  refine Ev.seq (Ev.imp first fun f hf => ?_)
  cases f with
  | nx ρ S =>
    obtain ⟨rfl, c', a, b, p, x, hb, rfl, rfl, hs, hk, ha, hb'⟩ := hf
    obtain ⟨figs, _, _, _, rfl, _⟩ := hs.ex
    have hg : dGetD (.ref 1) (.str n) (.lst (figs.map .int) :: spC p x hb :: T) = some (.lst [.int a, .int b], .lst (figs.map .int) :: spC p x hb :: T) := by
      unfold dGetD spC
      rw [look1, hk]
    refine Ev.seq (Ev.setN (d := .lst [.int a, .int b]) (S' := .lst (figs.map .int) :: spC p x hb :: T) (by simp [sSeq, sSet, sRet, sExpr, sIf, gN, gT, gsCons, gsNil, cVar, cC, cBin, cUn, cNil, cCons, cApp, cB, cTr, cAnd, cOr, cNot, cV, cAndV, cOrV, cNotV, cIf, nD, mkTup, mkLst, mkBox, asQ, asL, negD, addD, subD, cmpD, isND, notND, eqD, neD, eqS, lenD, tupleD, DL.intD, cM, apnd, popM, sPar, sPar3, sNext, sAug, ipD, hg]) ?_)
    have h0 : ∀ S : Store, ixD (.lst [.int a, .int b]) (.int 0) S = some (.int a, S) := fun _ => rfl
    have h1 : ∀ S : Store, ixD (.lst [.int a, .int b]) (.int 1) S = some (.int b, S) := fun _ => rfl
    refine Ev.seq (Ev.ite (c := decide (a = 0)) (S' := .lst (figs.map .int) :: spC p x hb :: T) (by simp [sSeq, sSet, sRet, sExpr, sIf, gN, gT, gsCons, gsNil, cVar, cC, cBin, cUn, cNil, cCons, cApp, cB, cTr, cAnd, cOr, cNot, cV, cAndV, cOrV, cNotV, cIf, nD, mkTup, mkLst, mkBox, asQ, asL, negD, addD, subD, cmpD, isND, notND, eqD, neD, eqS, lenD, tupleD, DL.intD, cM, apnd, popM, sPar, sPar3, sNext, sAug, ipD, h0]) (fun _ => ?_) (fun _ => Ev.next ?_))
    · exact Ev.ret (d := .int (0 : Nat)) (S' := .lst (figs.map .int) :: spC p x hb :: T) rfl ⟨_, _, [], by rw [List.append_nil], hs, rfl, 0, rfl, by omega⟩
    refine Ev.seq (Ev.ite (c := decide (a = 1)) (S' := .lst (figs.map .int) :: spC p x hb :: T) (by simp [sSeq, sSet, sRet, sExpr, sIf, gN, gT, gsCons, gsNil, cVar, cC, cBin, cUn, cNil, cCons, cApp, cB, cTr, cAnd, cOr, cNot, cV, cAndV, cOrV, cNotV, cIf, nD, mkTup, mkLst, mkBox, asQ, asL, negD, addD, subD, cmpD, isND, notND, eqD, neD, eqS, lenD, tupleD, DL.intD, cM, apnd, popM, sPar, sPar3, sNext, sAug, ipD, h0]) (fun _ => ?_) (fun _ => Ev.next ?_))
    · exact Ev.ret (d := .int ((m - 1).toNat : Nat)) (S' := .lst (figs.map .int) :: spC p x hb :: T) (by simp [sSeq, sSet, sRet, sExpr, sIf, gN, gT, gsCons, gsNil, cVar, cC, cBin, cUn, cNil, cCons, cApp, cB, cTr, cAnd, cOr, cNot, cV, cAndV, cOrV, cNotV, cIf, nD, mkTup, mkLst, mkBox, asQ, asL, negD, addD, subD, cmpD, isND, notND, eqD, neD, eqS, lenD, tupleD, DL.intD, cM, apnd, popM, sPar, sPar3, sNext, sAug, ipD] <;> omega) ⟨_, _, [], by rw [List.append_nil], hs, rfl, _, rfl, by omega⟩
    by_cases h2 : a = 2
    · have g1 : 0 ≤ b % m := Int.emod_nonneg _ (by omega)
      have g2 : b % m < m := Int.emod_lt_of_pos _ hm
      exact Ev.ret (d := .int ((b % m).toNat : Nat)) (S' := .lst (figs.map .int) :: spC p x hb :: T) (by subst h2; simp [sSeq, sSet, sRet, sExpr, sIf, gN, gT, gsCons, gsNil, cVar, cC, cBin, cUn, cNil, cCons, cApp, cB, cTr, cAnd, cOr, cNot, cV, cAndV, cOrV, cNotV, cIf, nD, mkTup, mkLst, mkBox, asQ, asL, negD, addD, subD, cmpD, isND, notND, eqD, neD, eqS, lenD, tupleD, DL.intD, cM, apnd, popM, sPar, sPar3, sNext, sAug, ipD, h0, h1, mod_s hm]; omega) ⟨_, _, [], by rw [List.append_nil], hs, rfl, _, rfl, by omega⟩
    · obtain ⟨d1, c1, e1, s1, v1, rfl, b1⟩ := roll_ok (T := T) (m := m) hs hm
      exact Ev.ret (d := .int v1) (S' := .lst (figs.map .int) :: c1 :: T) (by simp [sSeq, sSet, sRet, sExpr, sIf, gN, gT, gsCons, gsNil, cVar, cC, cBin, cUn, cNil, cCons, cApp, cB, cTr, cAnd, cOr, cNot, cV, cAndV, cOrV, cNotV, cIf, nD, mkTup, mkLst, mkBox, asQ, asL, negD, addD, subD, cmpD, isND, notND, eqD, neD, eqS, lenD, tupleD, DL.intD, cM, apnd, popM, sPar, sPar3, sNext, sAug, ipD, h0, h2, e1]) ⟨_, _, [], by rw [List.append_nil], s1, rfl, v1, rfl, b1⟩
  | _ => exact hf.elim

end K84

namespace K84
open PySem PySem.Spec PyProof.Rows L2 DL BK
theorem alike_ok : ∀ (k : Nat) {d : D} {S : Store}, okA k d = true → fr__law_alike k [d, d] S = some (.bl true, S)
  | 0, _, _, h => by cases h
  | k + 1, d, S, h => by
    refine call_ev ?_ rfl
    unfold c__law_alike
    cases d with
    | tup ds =>
      have hh : ds.all (okA k) = true ∧ ds.length ≤ 100000 := by simpa [okA] using h
      obtain ⟨h1, h2⟩ := hh
      refine Ev.seq (Ev.ifT (S' := S) (by simp [sSeq, sSet, sRet, sExpr, sIf, gN, gT, gsCons, gsNil, cVar, cC, cBin, cUn, cNil, cCons, cApp, cB, cTr, cAnd, cOr, cNot, cV, cAndV, cOrV, cNotV, cIf, nD, mkTup, mkLst, mkBox, asQ, asL, negD, addD, subD, cmpD, isND, notND, eqD, neD, eqS, lenD, tupleD, DL.intD, cM, apnd, popM, sPar, sPar3, sNext, sAug, ipD, isiD, tyD, k_tt]) ?_)
      refine Ev.seq (Ev.ifF (S' := S) (by simp [sSeq, sSet, sRet, sExpr, sIf, gN, gT, gsCons, gsNil, cVar, cC, cBin, cUn, cNil, cCons, cApp, cB, cTr, cAnd, cOr, cNot, cV, cAndV, cOrV, cNotV, cIf, nD, mkTup, mkLst, mkBox, asQ, asL, negD, addD, subD, cmpD, isND, notND, eqD, neD, eqS, lenD, tupleD, DL.intD, cM, apnd, popM, sPar, sPar3, sNext, sAug, ipD, isiD, tyD, k_tt]) (Ev.next ?_))
      refine Ev.seq (Ev.for_ (S' := S) (fun n : Nat => .int (n : Nat)) (fun ks ρ S' => S' = S ∧ ∃ j x2, ks = List.range' j (ds.length - j) ∧ j ≤ ds.length ∧ ρ = [some (.tup ds), some (.tup ds), x2])
        (rng1 (n := ds.length) (by simp [sSeq, sSet, sRet, sExpr, sIf, gN, gT, gsCons, gsNil, cVar, cC, cBin, cUn, cNil, cCons, cApp, cB, cTr, cAnd, cOr, cNot, cV, cAndV, cOrV, cNotV, cIf, nD, mkTup, mkLst, mkBox, asQ, asL, negD, addD, subD, cmpD, isND, notND, eqD, neD, eqS, lenD, tupleD, DL.intD, cM, apnd, popM, sPar, sPar3, sNext, sAug, ipD]) (by omega)) rfl ⟨rfl, 0, none, by rw [List.range_eq_range']; simp, Nat.zero_le _, rfl⟩ ?_ ?_)
      · rintro y ks ρ S' ⟨rfl, j, x2, hk, hj, rfl⟩
        obtain ⟨rfl, hlt, rfl⟩ := rng_at hk hj
        have hok : okA k ds[y] = true := by
          rw [List.all_eq_true] at h1
          exact h1 _ (List.getElem_mem hlt)
        have hix : ∀ S0 : Store, ixD (.tup ds) (.int y) S0 = some (ds[y], S0) := fun S0 => by
          rw [ixTU, atI_nat (v := ds[y]) (by simp [hlt])]
          rfl
        refine ⟨_, rfl, Ev.ifF (S' := S') ?_ (Ev.next ⟨rfl, y + 1, _, rfl, hlt, rfl⟩)⟩
        simp [sSeq, sSet, sRet, sExpr, sIf, gN, gT, gsCons, gsNil, cVar, cC, cBin, cUn, cNil, cCons, cApp, cB, cTr, cAnd, cOr, cNot, cV, cAndV, cOrV, cNotV, cIf, nD, mkTup, mkLst, mkBox, asQ, asL, negD, addD, subD, cmpD, isND, notND, eqD, neD, eqS, lenD, tupleD, DL.intD, cM, apnd, popM, sPar, sPar3, sNext, sAug, ipD, hix, alike_ok k hok]
      · rintro ρ S' ⟨rfl, j, x2, hk, hj, rfl⟩
        exact Ev.ret (d := .bl true) (S' := S') rfl ⟨[], by simp⟩
    | non =>
      refine Ev.seq (Ev.ifF (S' := S) (by simp [sSeq, sSet, sRet, sExpr, sIf, gN, gT, gsCons, gsNil, cVar, cC, cBin, cUn, cNil, cCons, cApp, cB, cTr, cAnd, cOr, cNot, cV, cAndV, cOrV, cNotV, cIf, nD, mkTup, mkLst, mkBox, asQ, asL, negD, addD, subD, cmpD, isND, notND, eqD, neD, eqS, lenD, tupleD, DL.intD, cM, apnd, popM, sPar, sPar3, sNext, sAug, ipD, isiD, tyD, k_nt]) (Ev.next ?_))
      exact Ev.seq (Ev.ifT (S' := S) (by simp [sSeq, sSet, sRet, sExpr, sIf, gN, gT, gsCons, gsNil, cVar, cC, cBin, cUn, cNil, cCons, cApp, cB, cTr, cAnd, cOr, cNot, cV, cAndV, cOrV, cNotV, cIf, nD, mkTup, mkLst, mkBox, asQ, asL, negD, addD, subD, cmpD, isND, notND, eqD, neD, eqS, lenD, tupleD, DL.intD, cM, apnd, popM, sPar, sPar3, sNext, sAug, ipD]) (Ev.ret (d := .bl true) (S' := S) (by simp [sSeq, sSet, sRet, sExpr, sIf, gN, gT, gsCons, gsNil, cVar, cC, cBin, cUn, cNil, cCons, cApp, cB, cTr, cAnd, cOr, cNot, cV, cAndV, cOrV, cNotV, cIf, nD, mkTup, mkLst, mkBox, asQ, asL, negD, addD, subD, cmpD, isND, notND, eqD, neD, eqS, lenD, tupleD, DL.intD, cM, apnd, popM, sPar, sPar3, sNext, sAug, ipD]) ⟨[], by simp⟩))
    | bl c =>
      refine Ev.seq (Ev.ifF (S' := S) (by simp [sSeq, sSet, sRet, sExpr, sIf, gN, gT, gsCons, gsNil, cVar, cC, cBin, cUn, cNil, cCons, cApp, cB, cTr, cAnd, cOr, cNot, cV, cAndV, cOrV, cNotV, cIf, nD, mkTup, mkLst, mkBox, asQ, asL, negD, addD, subD, cmpD, isND, notND, eqD, neD, eqS, lenD, tupleD, DL.intD, cM, apnd, popM, sPar, sPar3, sNext, sAug, ipD, isiD, tyD, k_bt]) (Ev.next ?_))
      exact Ev.seq (Ev.ifT (S' := S) (by simp [sSeq, sSet, sRet, sExpr, sIf, gN, gT, gsCons, gsNil, cVar, cC, cBin, cUn, cNil, cCons, cApp, cB, cTr, cAnd, cOr, cNot, cV, cAndV, cOrV, cNotV, cIf, nD, mkTup, mkLst, mkBox, asQ, asL, negD, addD, subD, cmpD, isND, notND, eqD, neD, eqS, lenD, tupleD, DL.intD, cM, apnd, popM, sPar, sPar3, sNext, sAug, ipD, isiD, tyD, k_bb]) (Ev.ret (d := .bl true) (S' := S) (by simp [sSeq, sSet, sRet, sExpr, sIf, gN, gT, gsCons, gsNil, cVar, cC, cBin, cUn, cNil, cCons, cApp, cB, cTr, cAnd, cOr, cNot, cV, cAndV, cOrV, cNotV, cIf, nD, mkTup, mkLst, mkBox, asQ, asL, negD, addD, subD, cmpD, isND, notND, eqD, neD, eqS, lenD, tupleD, DL.intD, cM, apnd, popM, sPar, sPar3, sNext, sAug, ipD, isiD, tyD, k_bb]) ⟨[], by simp⟩))
    | int i =>
      refine Ev.seq (Ev.ifF (S' := S) (by simp [sSeq, sSet, sRet, sExpr, sIf, gN, gT, gsCons, gsNil, cVar, cC, cBin, cUn, cNil, cCons, cApp, cB, cTr, cAnd, cOr, cNot, cV, cAndV, cOrV, cNotV, cIf, nD, mkTup, mkLst, mkBox, asQ, asL, negD, addD, subD, cmpD, isND, notND, eqD, neD, eqS, lenD, tupleD, DL.intD, cM, apnd, popM, sPar, sPar3, sNext, sAug, ipD, isiD, tyD, k_it]) (Ev.next ?_))
      refine Ev.seq (Ev.ifF (S' := S) (by simp [sSeq, sSet, sRet, sExpr, sIf, gN, gT, gsCons, gsNil, cVar, cC, cBin, cUn, cNil, cCons, cApp, cB, cTr, cAnd, cOr, cNot, cV, cAndV, cOrV, cNotV, cIf, nD, mkTup, mkLst, mkBox, asQ, asL, negD, addD, subD, cmpD, isND, notND, eqD, neD, eqS, lenD, tupleD, DL.intD, cM, apnd, popM, sPar, sPar3, sNext, sAug, ipD, isiD, tyD, k_ib]) (Ev.next ?_))
      exact Ev.seq (Ev.ifT (S' := S) (by simp [sSeq, sSet, sRet, sExpr, sIf, gN, gT, gsCons, gsNil, cVar, cC, cBin, cUn, cNil, cCons, cApp, cB, cTr, cAnd, cOr, cNot, cV, cAndV, cOrV, cNotV, cIf, nD, mkTup, mkLst, mkBox, asQ, asL, negD, addD, subD, cmpD, isND, notND, eqD, neD, eqS, lenD, tupleD, DL.intD, cM, apnd, popM, sPar, sPar3, sNext, sAug, ipD, isiD, tyD, k_ii]) (Ev.ret (d := .bl true) (S' := S) (by simp [sSeq, sSet, sRet, sExpr, sIf, gN, gT, gsCons, gsNil, cVar, cC, cBin, cUn, cNil, cCons, cApp, cB, cTr, cAnd, cOr, cNot, cV, cAndV, cOrV, cNotV, cIf, nD, mkTup, mkLst, mkBox, asQ, asL, negD, addD, subD, cmpD, isND, notND, eqD, neD, eqS, lenD, tupleD, DL.intD, cM, apnd, popM, sPar, sPar3, sNext, sAug, ipD, isiD, tyD, k_ii, k_ib]) ⟨[], by simp⟩))
    | str x =>
      refine Ev.seq (Ev.ifF (S' := S) (by simp [sSeq, sSet, sRet, sExpr, sIf, gN, gT, gsCons, gsNil, cVar, cC, cBin, cUn, cNil, cCons, cApp, cB, cTr, cAnd, cOr, cNot, cV, cAndV, cOrV, cNotV, cIf, nD, mkTup, mkLst, mkBox, asQ, asL, negD, addD, subD, cmpD, isND, notND, eqD, neD, eqS, lenD, tupleD, DL.intD, cM, apnd, popM, sPar, sPar3, sNext, sAug, ipD, isiD, tyD, k_st]) (Ev.next ?_))
      refine Ev.seq (Ev.ifF (S' := S) (by simp [sSeq, sSet, sRet, sExpr, sIf, gN, gT, gsCons, gsNil, cVar, cC, cBin, cUn, cNil, cCons, cApp, cB, cTr, cAnd, cOr, cNot, cV, cAndV, cOrV, cNotV, cIf, nD, mkTup, mkLst, mkBox, asQ, asL, negD, addD, subD, cmpD, isND, notND, eqD, neD, eqS, lenD, tupleD, DL.intD, cM, apnd, popM, sPar, sPar3, sNext, sAug, ipD, isiD, tyD, k_sb]) (Ev.next ?_))
      refine Ev.seq (Ev.ifF (S' := S) (by simp [sSeq, sSet, sRet, sExpr, sIf, gN, gT, gsCons, gsNil, cVar, cC, cBin, cUn, cNil, cCons, cApp, cB, cTr, cAnd, cOr, cNot, cV, cAndV, cOrV, cNotV, cIf, nD, mkTup, mkLst, mkBox, asQ, asL, negD, addD, subD, cmpD, isND, notND, eqD, neD, eqS, lenD, tupleD, DL.intD, cM, apnd, popM, sPar, sPar3, sNext, sAug, ipD, isiD, tyD, k_si]) (Ev.next ?_))
      exact Ev.ret (d := .bl true) (S' := S) (by simp [sSeq, sSet, sRet, sExpr, sIf, gN, gT, gsCons, gsNil, cVar, cC, cBin, cUn, cNil, cCons, cApp, cB, cTr, cAnd, cOr, cNot, cV, cAndV, cOrV, cNotV, cIf, nD, mkTup, mkLst, mkBox, asQ, asL, negD, addD, subD, cmpD, isND, notND, eqD, neD, eqS, lenD, tupleD, DL.intD, cM, apnd, popM, sPar, sPar3, sNext, sAug, ipD, isiD, tyD, k_ss]) ⟨[], by simp⟩
    | _ => cases h

end K84

namespace K84
open PySem PySem.Spec PyProof.Rows L2 DL BK
theorem spool_ok {ns : List Int} : ∃ F c, f__law_spool [.scr (ns.map D.int)] [] = some (.ref 1, [F, c]) ∧ Sp F c := by
  have start : Sp (.lst (([] : List Int).map .int)) (spC 0 8419 []) := ⟨[], 0, 8419, [], rfl, by simp, rfl, by omega, by omega, by simp, by simp⟩
  have main : Ev c__law_spool [some (.scr (ns.map D.int)), none, none, none, none, none] [] (fun f => ∃ F c, f = .rt (.ref 1) [F, c] ∧ Sp F c) := by
    unfold c__law_spool
    have z0 : (0 : Nat) ≤ sizeLine := Nat.zero_le _
    refine Ev.seq (Ev.setN (d := .ref 1) (S' := [.lst (([] : List Int).map .int), spC 0 8419 []]) (by simp [sSeq, sSet, sRet, sExpr, sIf, gN, gT, gsCons, gsNil, cVar, cC, cBin, cUn, cNil, cCons, cApp, cB, cTr, cAnd, cOr, cNot, cV, cAndV, cOrV, cNotV, cIf, nD, mkTup, mkLst, mkBox, asQ, asL, negD, addD, subD, cmpD, isND, notND, eqD, neD, eqS, lenD, tupleD, DL.intD, cM, apnd, popM, sPar, sPar3, sNext, sAug, ipD, cDispK, cPrs, keysK, keyK, kMerge, kPut, spC, spB, eH, n1, n2, n3, z0]) ?_)
    obtain ⟨qs, hqs⟩ : ∃ qs : List Int, DL.cutD (ns.map D.int) none (some 40) = qs.map D.int ∧ qs.length ≤ 40 := by
      refine ⟨ns.take 40, ?_, by simp; omega⟩
      unfold DL.cutD
      have e2 : HT.sIx (ns.map D.int).length (ns.map D.int).length (some 40) = min 40 (ns.map D.int).length := HT.sIx_nat _ _ 40
      rw [e2, show HT.sIx (ns.map D.int).length 0 none = 0 from rfl, List.drop_zero, List.map_take, Nat.sub_zero, List.take_eq_take_iff]
      omega
    refine Ev.seq (Ev.for_ (S' := [.lst (([] : List Int).map .int), spC 0 8419 []]) D.int (fun ys ρ S => ∃ (figs : List Int) (x : Int) (x2 x3 x4 x5 : Option D), ρ = [some (.scr (ns.map D.int)), some (.ref 1), x2, x3, x4, x5] ∧ S = [.lst (figs.map .int), spC 0 x []] ∧ Sp (.lst (figs.map .int)) (spC 0 x []) ∧ figs.length + 70 * ys.length ≤ 2800)
      (xs := qs.map D.int) (by
        have : ∀ S : Store, slD false (.scr (ns.map D.int)) none (some 40) S = some (.lst (qs.map D.int), S) := fun S => by
          rw [← hqs.1]
          rfl
        simp [cItS, cSl, cVar, oNo, oSome, cC, this, itSeq]) rfl ⟨[], 8419, none, none, none, none, rfl, rfl, start, by have := hqs.2; simp; omega⟩ ?_ ?_)
    · rintro y ys ρ S ⟨figs, x, x2, x3, x4, x5, rfl, rfl, hs, hl⟩
      obtain ⟨figs0, _, _, _, ef, hf, ec, hp, hx, _⟩ := hs.ex
      obtain ⟨rfl, rfl, rfl⟩ := spC_inj ec
      have hff : ∀ y ∈ figs, 0 ≤ y := by
        have : figs = figs0 := by
          injection ef with ef
          exact ints_inj ef
        rw [this]; exact hf
      refine ⟨_, rfl, ?_⟩
      have ha : 0 ≤ (if y < 0 then -y else y) := by split <;> omega
      refine Ev.seq (Ev.setN (d := .int (if y < 0 then -y else y)) (S' := [.lst (figs.map .int), spC 0 x []]) (by simp [sSeq, sSet, sRet, sExpr, sIf, gN, gT, gsCons, gsNil, cVar, cC, cBin, cUn, cNil, cCons, cApp, cB, cTr, cAnd, cOr, cNot, cV, cAndV, cOrV, cNotV, cIf, nD, mkTup, mkLst, mkBox, asQ, asL, negD, addD, subD, cmpD, isND, notND, eqD, neD, eqS, lenD, tupleD, DL.intD, cM, apnd, popM, sPar, sPar3, sNext, sAug, ipD, absD]) ?_)
      generalize (if y < 0 then -y else y) = a at ha
      have e1 : 0 ≤ (x * 48271 + a % 4294967291 + 61) % 2147483549 := Int.emod_nonneg _ (by omega)
      have hg : dGetD (.ref 1) (.str "mix") [.lst (figs.map .int), spC 0 x []] = some (.int x, [.lst (figs.map .int), spC 0 x []]) := by
        unfold dGetD spC
        rw [look1, kM]
      refine Ev.seq (Ev.dput (d := .int ((x * 48271 + a % 4294967291 + 61) % 2147483549)) (x := .ref 1) (y := .str "mix") (S1 := [.lst (figs.map .int), spC 0 x []]) (S4 := [.lst (figs.map .int), spC 0 ((x * 48271 + a % 4294967291 + 61) % 2147483549) []])
        (by simp [sSeq, sSet, sRet, sExpr, sIf, gN, gT, gsCons, gsNil, cVar, cC, cBin, cUn, cNil, cCons, cApp, cB, cTr, cAnd, cOr, cNot, cV, cAndV, cOrV, cNotV, cIf, nD, mkTup, mkLst, mkBox, asQ, asL, negD, addD, subD, cmpD, isND, notND, eqD, neD, eqS, lenD, tupleD, DL.intD, cM, apnd, popM, sPar, sPar3, sNext, sAug, ipD, hg, mul_r (a := x) (b := 48271) (by omega) (by omega), mod_s (b := 4294967291) (by omega), mod_s (b := 2147483549) (by omega)]) rfl rfl ?_ ?_)
      · rw [show spC 0 x [] = .dK false (spB 0 x ++ eH []) from rfl, put1 (by simp [spB, eH]), pM (by simp)]
        rfl
      generalize (x * 48271 + a % 4294967291 + 61) % 2147483549 = x' at e1
      refine Ev.seq (Ev.setN (d := .bl (decide ((10 : Int) ^ 18 ≤ a))) (S' := [.lst (figs.map .int), spC 0 x' []]) (by simp [sSeq, sSet, sRet, sExpr, sIf, gN, gT, gsCons, gsNil, cVar, cC, cBin, cUn, cNil, cCons, cApp, cB, cTr, cAnd, cOr, cNot, cV, cAndV, cOrV, cNotV, cIf, nD, mkTup, mkLst, mkBox, asQ, asL, negD, addD, subD, cmpD, isND, notND, eqD, neD, eqS, lenD, tupleD, DL.intD, cM, apnd, popM, sPar, sPar3, sNext, sAug, ipD, pow_s (a := 10) (b := 18) (by omega) (by omega) (by decide)]) ?_)
      have hgF : ∀ fs : List Int, dGetD (.ref 1) (.str "figures") [.lst (fs.map .int), spC 0 x' []] = some (.ref 0, [.lst (fs.map .int), spC 0 x' []]) := fun fs => by
        unfold dGetD spC
        rw [look1, kF]
      refine Ev.for_ (S' := [.lst (figs.map .int), spC 0 x' []]) (fun n : Nat => .int (n : Nat)) (fun ks ρ S => ∃ (fs : List Int) (a' : Int) (x5 : Option D), ρ = [some (.scr (ns.map D.int)), some (.ref 1), some (.int y), some (.int a'), some (.bl (decide ((10 : Int) ^ 18 ≤ a))), x5] ∧ S = [.lst (fs.map .int), spC 0 x' []] ∧ (∀ y ∈ fs, 0 ≤ y) ∧ 0 ≤ a' ∧ fs.length + ks.length ≤ figs.length + 70)
        (rng1 (n := 70) rfl (by omega)) rfl ⟨figs, a, x5, rfl, rfl, hff, ha, by simp⟩ ?_ ?_
      · rintro k ks ρ S ⟨fs, a', x5, rfl, rfl, hfs, ha', hlen⟩
        have hlen' : fs.length + (ks.length + 1) ≤ figs.length + 70 := hlen
        refine ⟨_, rfl, Ev.ite (c := decide ((10 : Int) ^ 18 ≤ a) && decide (0 < a')) (S' := [.lst (fs.map .int), spC 0 x' []]) ?_ (fun _ => ?_) (fun _ => Ev.next ⟨fs, a', _, rfl, rfl, hfs, ha', by omega⟩)⟩
        · cases hb : decide ((10 : Int) ^ 18 ≤ a) <;> simp [sSeq, sSet, sRet, sExpr, sIf, gN, gT, gsCons, gsNil, cVar, cC, cBin, cUn, cNil, cCons, cApp, cB, cTr, cAnd, cOr, cNot, cV, cAndV, cOrV, cNotV, cIf, nD, mkTup, mkLst, mkBox, asQ, asL, negD, addD, subD, cmpD, isND, notND, eqD, neD, eqS, lenD, tupleD, DL.intD, cM, apnd, popM, sPar, sPar3, sNext, sAug, ipD, truD]
        · have h1 : 0 ≤ a' % 2200 := Int.emod_nonneg _ (by omega)
          have h2 : 0 ≤ a' / 2200 := Int.ediv_nonneg ha' (by omega)
          have hz : fs.length < sizeLine := by rw [sizeLine_eq]; omega
          refine Ev.seq (Ev.expr (d := .non) (S' := [.lst ((fs ++ [a' % 2200]).map .int), spC 0 x' []]) (by simp [sSeq, sSet, sRet, sExpr, sIf, gN, gT, gsCons, gsNil, cVar, cC, cBin, cUn, cNil, cCons, cApp, cB, cTr, cAnd, cOr, cNot, cV, cAndV, cOrV, cNotV, cIf, nD, mkTup, mkLst, mkBox, asQ, asL, negD, addD, subD, cmpD, isND, notND, eqD, neD, eqS, lenD, tupleD, DL.intD, cM, apnd, popM, sPar, sPar3, sNext, sAug, ipD, hgF, mod_s (b := 2200) (by omega), hz]) ?_)
          refine Ev.setN (d := .int (a' / 2200)) (S' := [.lst ((fs ++ [a' % 2200]).map .int), spC 0 x' []]) (by simp [sSeq, sSet, sRet, sExpr, sIf, gN, gT, gsCons, gsNil, cVar, cC, cBin, cUn, cNil, cCons, cApp, cB, cTr, cAnd, cOr, cNot, cV, cAndV, cOrV, cNotV, cIf, nD, mkTup, mkLst, mkBox, asQ, asL, negD, addD, subD, cmpD, isND, notND, eqD, neD, eqS, lenD, tupleD, DL.intD, cM, apnd, popM, sPar, sPar3, sNext, sAug, ipD, fdiv_s (b := 2200) (by omega) (by omega)]) ?_
          refine ⟨fs ++ [a' % 2200], a' / 2200, _, rfl, rfl, fun z hz => ?_, h2, by simp; omega⟩
          rcases List.mem_append.mp hz with hz | hz
          · exact hfs z hz
          · rw [List.mem_singleton.mp hz]; exact h1
      · rintro ρ S ⟨fs, a', x5, rfl, rfl, hfs, ha', hlen⟩
        refine ⟨fs, x', _, _, _, _, rfl, rfl, ⟨fs, 0, x', [], rfl, hfs, rfl, by omega, e1, by simp, by simp⟩, ?_⟩
        simp only [List.length_cons, List.length_nil] at hl hlen
        omega
    · rintro ρ S ⟨figs, x, x2, x3, x4, x5, rfl, rfl, hs, hl⟩
      exact Ev.ret (d := .ref 1) (S' := [.lst (figs.map .int), spC 0 x []]) rfl ⟨_, _, rfl, hs⟩
  obtain ⟨f, e, F, c, rfl, hs⟩ := main
  exact ⟨F, c, by unfold f__law_spool callFK; rw [show (([D.scr (ns.map D.int)] : List D).map some ++ List.replicate (6 - ([D.scr (ns.map D.int)] : List D).length) none) = [some (.scr (ns.map D.int)), none, none, none, none, none] from rfl, e]; rfl, hs⟩

end K84

namespace K84
open PySem PySem.Spec PyProof.Rows L2 DL BK
theorem book_ok {F c : Cell} {T n w m : Nat} (h : Sp F c) (hT : 1 ≤ T) (hT2 : T ≤ 100) (hn : 1 ≤ n) (hn2 : n ≤ 1000) (hw : w ≤ 1000) (hm : 1 ≤ m) (hm2 : m ≤ 9) :
    SpF f__law_book [.ref 1, .int T, .int n, .int w, .int m] F c [] fun d => ∃ b, d = eB b ∧ DB b T n w m := by
  have z2 : (2 : Nat) ≤ sizeLine := by rw [sizeLine_eq]; omega
  have z3 : (3 : Nat) ≤ sizeLine := by rw [sizeLine_eq]; omega
  refine spF_ev ?_
  unfold c__law_book
  refine Ev.seq (Ev.setN (d := .ref 2) (S' := [F, c, .lst (([] : List (Str × List Mv)).map eS)]) (by simp [sSeq, sSet, sRet, sExpr, sIf, gN, gT, gsCons, gsNil, cVar, cC, cBin, cUn, cNil, cCons, cApp, cB, cTr, cAnd, cOr, cNot, cV, cAndV, cOrV, cNotV, cIf, nD, mkTup, mkLst, mkBox, asQ, asL, negD, addD, subD, cmpD, isND, notND, eqD, neD, eqS, lenD, tupleD, DL.intD, cM, apnd, popM, sPar, sPar3, sNext, sAug, ipD]) ?_)
  refine Ev.seq (Ev.for_ (S' := [F, c, .lst (([] : List (Str × List Mv)).map eS)]) (fun k : Nat => .int (k : Nat)) (fun ks ρ S => ∃ (sts : List (Str × List Mv)) (c' : Cell) (G : Store) (j : Nat) (x6 x7 x8 x9 : Option D), ks = List.range' j (n - j) ∧ j ≤ n ∧ ρ = [some (.ref 1), some (.int T), some (.int n), some (.int w), some (.int m), some (.ref 2), x6, x7, x8, x9, none] ∧ S = F :: c' :: .lst (sts.map eS) :: G ∧ Sp F c' ∧ sts.length = j ∧ ∀ s ∈ sts, gS T n w m s)
    (rng1 (n := n) rfl (by omega)) rfl ⟨[], c, [], 0, none, none, none, none, by rw [List.range_eq_range']; simp, Nat.zero_le _, rfl, rfl, h, rfl, by simp⟩ ?_ ?_)
  · rintro y ks ρ S ⟨sts, c', G, j, x6, x7, x8, x9, hk, hj, rfl, rfl, hs, hlen, hg⟩
    obtain ⟨rfl, hlt, rfl⟩ := rng_at hk hj
    refine ⟨_, rfl, ?_⟩
    refine Ev.seq (Ev.setN (d := .ref (G.length + 3)) (S' := F :: c' :: .lst (sts.map eS) :: (G ++ [.lst []])) (by simp [sSeq, sSet, sRet, sExpr, sIf, gN, gT, gsCons, gsNil, cVar, cC, cBin, cUn, cNil, cCons, cApp, cB, cTr, cAnd, cOr, cNot, cV, cAndV, cOrV, cNotV, cIf, nD, mkTup, mkLst, mkBox, asQ, asL, negD, addD, subD, cmpD, isND, notND, eqD, neD, eqS, lenD, tupleD, DL.intD, cM, apnd, popM, sPar, sPar3, sNext, sAug, ipD]) ?_)
    obtain ⟨d1, c1, e1, s1, v1, rfl, b1⟩ := roll_ok (T := .lst (sts.map eS) :: (G ++ [.lst []])) (m := 9) hs (by omega)
    obtain ⟨q, c2, hq, s2, hci⟩ : ∃ (q : Nat) (c2 : Cell), q ≤ m ∧ Sp F c2 ∧ cIf (cB (cBin gtD (cApp (nD 2 f__law_roll) (cCons (cVar 0) (cCons (cC (.int 9)) cNil))) (cC (.int 0)))) (cBin addD (cC (.int 1)) (cApp (nD 2 f__law_roll) (cCons (cVar 0) (cCons (cVar 4) cNil)))) (cC (.int 0))
        [some (.ref 1), some (.int T), some (.int n), some (.int w), some (.int m), some (.ref 2), some (.int y), some (.ref (G.length + 3)), x8, x9, none] (F :: c' :: .lst (sts.map eS) :: (G ++ [.lst []])) = some (.int q, F :: c2 :: .lst (sts.map eS) :: (G ++ [.lst []])) := by
      by_cases hz : v1 = 0
      · exact ⟨0, c1, by omega, s1, by subst hz; simp [sSeq, sSet, sRet, sExpr, sIf, gN, gT, gsCons, gsNil, cVar, cC, cBin, cUn, cNil, cCons, cApp, cB, cTr, cAnd, cOr, cNot, cV, cAndV, cOrV, cNotV, cIf, nD, mkTup, mkLst, mkBox, asQ, asL, negD, addD, subD, cmpD, isND, notND, eqD, neD, eqS, lenD, tupleD, DL.intD, cM, apnd, popM, sPar, sPar3, sNext, sAug, ipD, e1]⟩
      · obtain ⟨d2, c2, e2, s2, v2, rfl, b2⟩ := roll_ok (T := .lst (sts.map eS) :: (G ++ [.lst []])) (m := m) s1 (by omega)
        refine ⟨1 + v2, c2, by omega, s2, ?_⟩
        have hp : 0 < v1 := by omega
        simp [sSeq, sSet, sRet, sExpr, sIf, gN, gT, gsCons, gsNil, cVar, cC, cBin, cUn, cNil, cCons, cApp, cB, cTr, cAnd, cOr, cNot, cV, cAndV, cOrV, cNotV, cIf, nD, mkTup, mkLst, mkBox, asQ, asL, negD, addD, subD, cmpD, isND, notND, eqD, neD, eqS, lenD, tupleD, DL.intD, cM, apnd, popM, sPar, sPar3, sNext, sAug, ipD, e1, e2, hp]
    refine Ev.seq (Ev.for_ (S' := F :: c2 :: .lst (sts.map eS) :: (G ++ [.lst []])) (fun k : Nat => .int (k : Nat)) (fun ks ρ S => ∃ (ms : List Mv) (c' : Cell) (i : Nat) (x8 x9 : Option D), ks = List.range' i (q - i) ∧ i ≤ q ∧ ρ = [some (.ref 1), some (.int T), some (.int n), some (.int w), some (.int m), some (.ref 2), some (.int y), some (.ref (G.length + 3)), x8, x9, none] ∧ S = F :: c' :: .lst (sts.map eS) :: (G ++ [.lst (ms.map eM)]) ∧ Sp F c' ∧ ms.length = i ∧ ∀ v ∈ ms, gM T n w v)
      (rng1 (n := q) (by exact hci) (by omega)) rfl ⟨[], c2, 0, x8, x9, by rw [List.range_eq_range']; simp, Nat.zero_le _, rfl, rfl, s2, rfl, by simp⟩ ?_ ?_)
    · rintro p ps ρ S ⟨ms, c3, i, x8, x9, hk2, hi, rfl, rfl, s3, hl3, hg3⟩
      obtain ⟨rfl, hlt2, rfl⟩ := rng_at hk2 hi
      refine ⟨_, rfl, ?_⟩
      have hw1 : (0 : Int) < ((2 * w + 1 : Nat) : Int) := by omega
      obtain ⟨acc, S4, e4, c4, ps', rfl, rfl, s4, hl4, hg4⟩ := cLC_inv (α := Nat) (S := F :: c3 :: .lst (sts.map eS) :: (G ++ [.lst (ms.map eM)])) (ρ := [some (.ref 1), some (.int T), some (.int n), some (.int w), some (.int m), some (.ref 2), some (.int y), some (.ref (G.length + 3)), some (.int p), x9, none])
        (vs := [10]) (ci := cRng1 (cVar 1)) (g := gN 10) (e := cBin subD (cApp (nD 3 f__law_wont) (cCons (cVar 0) (cCons (cC (.str "pour")) (cCons (cBin addD (cBin mulD (cC (.int 2)) (cVar 3)) (cC (.int 1))) cNil)))) (cVar 3)) (fun k : Nat => .int (k : Nat))
        (fun ks acc S => ∃ (c' : Cell) (ps : Lv), acc = ps.map D.int ∧ S = F :: c' :: .lst (sts.map eS) :: (G ++ [.lst (ms.map eM)]) ∧ Sp F c' ∧ ps.length + ks.length = T ∧ ∀ x ∈ ps, -(w : Int) ≤ x ∧ x ≤ w)
        (rng1 (n := T) rfl (by omega)) rfl ⟨c3, [], rfl, rfl, s3, by simp, by simp⟩ (fun k ks acc S ⟨c5, ps, ea, eS', s5, hl5, hg5⟩ => by
          subst ea eS'
          obtain ⟨d6, c6, e6, s6, v6, rfl, b6⟩ := wont_ok (T := .lst (sts.map eS) :: (G ++ [.lst (ms.map eM)])) (n := "pour") (m := ((2 * w + 1 : Nat) : Int)) s5 (by decide +kernel) hw1
          have hmul : ∀ S : Store, mulD (.int 2) (.int w) S = some (.int (2 * w), S) := fun S => mul_l (by omega) (by omega)
          have e6' : f__law_wont [.ref 1, .str "pour", .int (2 * (w : Int) + 1)] (F :: c5 :: .lst (sts.map eS) :: (G ++ [.lst (ms.map eM)])) = some (.int v6, F :: c6 :: .lst (sts.map eS) :: (G ++ [.lst (ms.map eM)])) := by
            rw [← e6]
            congr 1
          refine ⟨_, rfl, .int ((v6 : Int) - w), _, by simp [sSeq, sSet, sRet, sExpr, sIf, gN, gT, gsCons, gsNil, cVar, cC, cBin, cUn, cNil, cCons, cApp, cB, cTr, cAnd, cOr, cNot, cV, cAndV, cOrV, cNotV, cIf, nD, mkTup, mkLst, mkBox, asQ, asL, negD, addD, subD, cmpD, isND, notND, eqD, neD, eqS, lenD, tupleD, DL.intD, cM, apnd, popM, sPar, sPar3, sNext, sAug, ipD, wipeD, hmul, e6'], c6, ps ++ [(v6 : Int) - w], by simp, rfl, s6, by simp only [List.length_append, List.length_cons, List.length_nil] at hl5 ⊢; omega, fun x hx => ?_⟩
          rcases List.mem_append.mp hx with hx | hx
          · exact hg5 x hx
          · rw [List.mem_singleton.mp hx]
            omega) (fun acc S ⟨c5, ps, ea, _, _, hl5, _⟩ => by
          rw [ea, List.length_map]
          simp at hl5
          exact small (by omega))
      have hl4' : ps'.length = T := by simpa using hl4
      refine Ev.seq (Ev.setN (d := eL ps') (S' := F :: c4 :: .lst (sts.map eS) :: (G ++ [.lst (ms.map eM)])) (by simp only [cApp, cCons, cNil, List.set_cons_zero, List.set_cons_succ]; rw [e4]; simp [tupleD, asQ, asL, eL]) ?_)
      obtain ⟨d5, c5, e5, s5, v5, rfl, b5⟩ := roll_ok (T := .lst (sts.map eS) :: (G ++ [.lst (ms.map eM)])) (m := 6) s4 (by omega)
      obtain ⟨d6, c6, e6, s6, v6, rfl, b6⟩ := roll_ok (T := .lst (sts.map eS) :: (G ++ [.lst (ms.map eM)])) (m := n) s5 (by omega)
      obtain ⟨wd, hwd, hix⟩ := letter_ok (m := v5) (by omega)
      have hp9 : p < 10 := by omega
      obtain ⟨pz, hst, hcat⟩ := word_small (i := p) hwd hp9
      refine Ev.apnd (k := G.length + 3) (S1 := F :: c4 :: .lst (sts.map eS) :: (G ++ [.lst (ms.map eM)])) (S2 := F :: c6 :: .lst (sts.map eS) :: (G ++ [.lst (ms.map eM)])) (ds0 := ms.map eM) (ds := ms.map eM) (x := eM (Mv.mk (wd ++ pz) ps' v6)) rfl (by simp) ?_ (by simp) (by simp; omega) ?_
      · simp [sSeq, sSet, sRet, sExpr, sIf, gN, gT, gsCons, gsNil, cVar, cC, cBin, cUn, cNil, cCons, cApp, cB, cTr, cAnd, cOr, cNot, cV, cAndV, cOrV, cNotV, cIf, nD, mkTup, mkLst, mkBox, asQ, asL, negD, addD, subD, cmpD, isND, notND, eqD, neD, eqS, lenD, tupleD, DL.intD, cM, apnd, popM, sPar, sPar3, sNext, sAug, ipD, e5, hix, hst, hcat, e6, z3, eM]
      refine ⟨ms ++ [Mv.mk (wd ++ pz) ps' v6], c6, p + 1, _, _, rfl, hlt2, rfl, by simp, s6, by simp [hl3], fun v hv => ?_⟩
      rcases List.mem_append.mp hv with hv | hv
      · exact hg3 v hv
      · rw [List.mem_singleton.mp hv]
        exact ⟨hl4', by show v6 < n; omega, hg4⟩
    · rintro ρ S ⟨ms, c3, i, x8, x9, hk2, hi, rfl, rfl, s3, hl3, hg3⟩
      have hiq := rng_end hk2 hi
      obtain ⟨d5, c5, e5, s5, v5, rfl, b5⟩ := roll_ok (T := .lst (sts.map eS) :: (G ++ [.lst (ms.map eM)])) (m := 2) s3 (by omega)
      obtain ⟨o, ho, hix⟩ := owner_at (v := v5) (by omega)
      have hsz : sts.length < sizeLine := by rw [sizeLine_eq]; omega
      refine Ev.expr (d := .non) (S' := F :: c5 :: .lst ((sts ++ [(o, ms)]).map eS) :: (G ++ [.lst (ms.map eM)])) ?_ ⟨sts ++ [(o, ms)], c5, G ++ [.lst (ms.map eM)], y + 1, _, _, _, _, rfl, hlt, rfl, rfl, s5, by simp [hlen], fun s hs => ?_⟩
      · have hg : ∀ (c : Cell) (x : List D), (F :: c :: .lst (sts.map eS) :: (G ++ [.lst x]))[G.length + 3]? = some (.lst x) := fun c x => by simp
        simp [sSeq, sSet, sRet, sExpr, sIf, gN, gT, gsCons, gsNil, cVar, cC, cBin, cUn, cNil, cCons, cApp, cB, cTr, cAnd, cOr, cNot, cV, cAndV, cOrV, cNotV, cIf, nD, mkTup, mkLst, mkBox, asQ, asL, negD, addD, subD, cmpD, isND, notND, eqD, neD, eqS, lenD, tupleD, DL.intD, cM, apnd, popM, sPar, sPar3, sNext, sAug, ipD, e5, hix, hg, z2, hsz, eS]
      · rcases List.mem_append.mp hs with hs | hs
        · exact hg s hs
        · rw [List.mem_singleton.mp hs]
          exact ⟨ho, by show ms.length ≤ m; omega, hg3⟩
  · rintro ρ S ⟨sts, c', G, j, x6, x7, x8, x9, hk, hj, rfl, rfl, hs, hlen, hg⟩
    have hjn := rng_end hk hj
    subst hjn
    refine Ev.ret (d := eB ⟨T, sts⟩) (S' := F :: c' :: .lst (sts.map eS) :: G) (by simp [sSeq, sSet, sRet, sExpr, sIf, gN, gT, gsCons, gsNil, cVar, cC, cBin, cUn, cNil, cCons, cApp, cB, cTr, cAnd, cOr, cNot, cV, cAndV, cOrV, cNotV, cIf, nD, mkTup, mkLst, mkBox, asQ, asL, negD, addD, subD, cmpD, isND, notND, eqD, neD, eqS, lenD, tupleD, DL.intD, cM, apnd, popM, sPar, sPar3, sNext, sAug, ipD, z2, eB]) ⟨_, c', .lst (sts.map eS) :: G, by simp, hs, below_eB _, _, rfl, db_of hT hT2 hn2 (by omega) hlen hg⟩

end K84

namespace K84
open PySem PySem.Spec PyProof.Rows L2 DL BK

def eO (o : List (List Nat)) : D := .tup (o.map eN)
theorem below_eO (o : List (List Nat)) : below 0 (eO o) = true := belows_map fun _ _ => below_eN _
/-- the row of a standing -/
def rowOk (x : Str × List Mv) (r : List Nat) : Prop := (x.1 = "house" → r.length = x.2.length) ∧ ∀ k ∈ r, k < x.2.length
def ordOk (b : Bk) (o : List (List Nat)) : Prop := Paired rowOk b.sts o
theorem paired_snoc {α β : Type} {R : α → β → Prop} {l : List α} {m : List β} {x : α} {y : β} (h : Paired R l m) (r : R x y) : Paired R (l ++ [x]) (m ++ [y]) := by
  induction h with
  | nil => exact .cons r .nil
  | cons r' _ ih => exact .cons r' ih
theorem erase_map {α : Type} (f : α → D) : ∀ (l : List α) (i : Nat), (l.map f).eraseIdx i = (l.eraseIdx i).map f
  | [], _ => rfl
  | x :: l, 0 => rfl
  | x :: l, i + 1 => by simp [erase_map f l i]
theorem order_ok {F c : Cell} {b : Bk} (W : WB b) (h : Sp F c) : SpF f__law_order [.ref 1, eB b] F c [] fun d => ∃ o, d = eO o ∧ ordOk b o := by
  have hn := W.n
  refine spF_ev ?_
  unfold c__law_order
  refine Ev.seq (Ev.setN (d := .ref 2) (S' := [F, c, .lst (([] : List (List Nat)).map eN)]) (by simp [sSeq, sSet, sRet, sExpr, sIf, gN, gT, gsCons, gsNil, cVar, cC, cBin, cUn, cNil, cCons, cApp, cB, cTr, cAnd, cOr, cNot, cV, cAndV, cOrV, cNotV, cIf, nD, mkTup, mkLst, mkBox, asQ, asL, negD, addD, subD, cmpD, isND, notND, eqD, neD, eqS, lenD, tupleD, DL.intD, cM, apnd, popM, sPar, sPar3, sNext, sAug, ipD]) ?_)
  refine Ev.seq (Ev.for_ (S' := [F, c, .lst (([] : List (List Nat)).map eN)]) eS (fun rs ρ S => ∃ (pre : List (Str × List Mv)) (os : List (List Nat)) (c' : Cell) (G : Store) (x3 x4 x5 x6 : Option D), b.sts = pre ++ rs ∧ ρ = [some (.ref 1), some (eB b), some (.ref 2), x3, x4, x5, x6, none] ∧ S = F :: c' :: .lst (os.map eN) :: G ∧ Sp F c' ∧ Paired rowOk pre os)
    (xs := b.sts.map eS) (by simp [cItS, sSeq, sSet, sRet, sExpr, sIf, gN, gT, gsCons, gsNil, cVar, cC, cBin, cUn, cNil, cCons, cApp, cB, cTr, cAnd, cOr, cNot, cV, cAndV, cOrV, cNotV, cIf, nD, mkTup, mkLst, mkBox, asQ, asL, negD, addD, subD, cmpD, isND, notND, eqD, neD, eqS, lenD, tupleD, DL.intD, cM, apnd, popM, sPar, sPar3, sNext, sAug, ipD, ixB1, itSeq]) rfl ⟨[], [], c, [], none, none, none, none, rfl, rfl, rfl, h, .nil⟩ ?_ ?_)
  · rintro ⟨ow, ms⟩ rs ρ S ⟨pre, os, c', G, x3, x4, x5, x6, hb, rfl, rfl, hs, hp⟩
    have hmem : (ow, ms) ∈ b.sts := by rw [hb]; simp
    have hms : ms.length ≤ 1000 := W.m _ hmem
    have hos : os.length = pre.length := (paired_len hp).symm
    have hpre : pre.length ≤ 1000 := by
      have := congrArg List.length hb
      simp at this
      omega
    refine ⟨_, by simp [gT, gsCons, gN, gsNil, eS]; rfl, ?_⟩
    -- left
    obtain ⟨left, hleft, hl1, hl2⟩ : ∃ left : List Nat, (left.length = if ow = "house" then ms.length else 0) ∧ (∀ k ∈ left, k < ms.length) ∧
        cIf (cB (cBin eqD (cVar 3) (cC (.str "house")))) (cLC [7] true (cRng1 (cApp lenD (cCons (cVar 4) cNil))) (lt1 (gN 7) tYesD (cVar 7))) (cApp mkBox cNil) [some (.ref 1), some (eB b), some (.ref 2), some (.str ow), some (.tup (ms.map eM)), x5, x6, none] (F :: c' :: .lst (os.map eN) :: G) = some (.ref (G.length + 3), F :: c' :: .lst (os.map eN) :: (G ++ [.lst (left.map fun k => .int (k : Nat))])) := by
      by_cases ho : ow = "house"
      · refine ⟨List.range ms.length, by simp [ho], fun k hk => by simpa using hk, ?_⟩
        have hc := cLC_fmB (S := F :: c' :: .lst (os.map eN) :: G) (ρ := [some (.ref 1), some (eB b), some (.ref 2), some (.str ow), some (.tup (ms.map eM)), x5, x6, none]) (vs := [7]) (ci := cRng1 (cApp lenD (cCons (cVar 4) cNil))) (g := gN 7) (t := tYesD) (e := cVar 7)
          (l := List.range ms.length) (fun k => D.int (k : Nat)) (fun _ => true) (fun k => D.int (k : Nat)) (rng1 (n := ms.length) (by simp [sSeq, sSet, sRet, sExpr, sIf, gN, gT, gsCons, gsNil, cVar, cC, cBin, cUn, cNil, cCons, cApp, cB, cTr, cAnd, cOr, cNot, cV, cAndV, cOrV, cNotV, cIf, nD, mkTup, mkLst, mkBox, asQ, asL, negD, addD, subD, cmpD, isND, notND, eqD, neD, eqS, lenD, tupleD, DL.intD, cM, apnd, popM, sPar, sPar3, sNext, sAug, ipD]) (by omega)) rfl (small (by simp; omega)) (fun q hq => ⟨_, rfl, rfl, fun _ => rfl⟩)
        rw [List.filter_eq_self.mpr fun _ _ => rfl] at hc
        have ht : cB (cBin eqD (cVar 3) (cC (.str "house"))) [some (.ref 1), some (eB b), some (.ref 2), some (.str ow), some (.tup (ms.map eM)), x5, x6, none] (F :: c' :: .lst (os.map eN) :: G) = some (true, F :: c' :: .lst (os.map eN) :: G) := by simp [sSeq, sSet, sRet, sExpr, sIf, gN, gT, gsCons, gsNil, cVar, cC, cBin, cUn, cNil, cCons, cApp, cB, cTr, cAnd, cOr, cNot, cV, cAndV, cOrV, cNotV, cIf, nD, mkTup, mkLst, mkBox, asQ, asL, negD, addD, subD, cmpD, isND, notND, eqD, neD, eqS, lenD, tupleD, DL.intD, cM, apnd, popM, sPar, sPar3, sNext, sAug, ipD, ho]
        unfold cIf
        rw [ht]
        simp only
        rw [hc]
        simp
      · refine ⟨[], by simp [ho], by simp, ?_⟩
        have ht : cB (cBin eqD (cVar 3) (cC (.str "house"))) [some (.ref 1), some (eB b), some (.ref 2), some (.str ow), some (.tup (ms.map eM)), x5, x6, none] (F :: c' :: .lst (os.map eN) :: G) = some (false, F :: c' :: .lst (os.map eN) :: G) := by simp [sSeq, sSet, sRet, sExpr, sIf, gN, gT, gsCons, gsNil, cVar, cC, cBin, cUn, cNil, cCons, cApp, cB, cTr, cAnd, cOr, cNot, cV, cAndV, cOrV, cNotV, cIf, nD, mkTup, mkLst, mkBox, asQ, asL, negD, addD, subD, cmpD, isND, notND, eqD, neD, eqS, lenD, tupleD, DL.intD, cM, apnd, popM, sPar, sPar3, sNext, sAug, ipD, ho]
        unfold cIf
        rw [ht]
        simp [cApp, cNil, mkBox]
    refine Ev.seq (Ev.setN (d := .ref (G.length + 3)) (S' := F :: c' :: .lst (os.map eN) :: (G ++ [.lst (left.map fun k => .int (k : Nat))])) (by exact hl2) ?_)
    refine Ev.seq (Ev.setN (d := .ref (G.length + 4)) (S' := F :: c' :: .lst (os.map eN) :: (G ++ [.lst (left.map fun k => .int (k : Nat)), .lst (([] : List Nat).map fun k => .int (k : Nat))])) (by simp [sSeq, sSet, sRet, sExpr, sIf, gN, gT, gsCons, gsNil, cVar, cC, cBin, cUn, cNil, cCons, cApp, cB, cTr, cAnd, cOr, cNot, cV, cAndV, cOrV, cNotV, cIf, nD, mkTup, mkLst, mkBox, asQ, asL, negD, addD, subD, cmpD, isND, notND, eqD, neD, eqS, lenD, tupleD, DL.intD, cM, apnd, popM, sPar, sPar3, sNext, sAug, ipD]) ?_)
    refine Ev.seq (Ev.while_ (α := List Nat) (fun lf ρ S => ∃ (row : List Nat) (c' : Cell), ρ = [some (.ref 1), some (eB b), some (.ref 2), some (.str ow), some (.tup (ms.map eM)), some (.ref (G.length + 3)), some (.ref (G.length + 4)), none] ∧ S = F :: c' :: .lst (os.map eN) :: (G ++ [.lst (lf.map fun k => .int (k : Nat)), .lst (row.map fun k => .int (k : Nat))]) ∧ Sp F c' ∧ lf.length + row.length = left.length ∧ (∀ k ∈ lf, k < ms.length) ∧ ∀ k ∈ row, k < ms.length)
      (fun lf => lf.length) left ⟨[], c', rfl, rfl, hs, by simp, hl1, by simp⟩ ?_)
    rintro lf ρ S ⟨row, c1, rfl, rfl, s1, hlen, hlf, hrow⟩
    have hleft' : left.length ≤ ms.length := by rw [hleft]; split <;> omega
    have g3 : ∀ (c : Cell) (x y : List D), (F :: c :: .lst (os.map eN) :: (G ++ [.lst x, .lst y]))[G.length + 3]? = some (.lst x) := fun c x y => by simp
    have g4 : ∀ (c : Cell) (x y : List D), (F :: c :: .lst (os.map eN) :: (G ++ [.lst x, .lst y]))[G.length + 4]? = some (.lst y) := fun c x y => by
      simp only [List.getElem?_cons_succ]
      rw [List.getElem?_append_right (by omega)]
      simp
    have t3 : ∀ (c : Cell) (x y z : List D), (F :: c :: .lst (os.map eN) :: (G ++ [.lst x, .lst y])).set (G.length + 3) (.lst z) = F :: c :: .lst (os.map eN) :: (G ++ [.lst z, .lst y]) := fun c x y z => by simp
    have t4 : ∀ (c : Cell) (x y z : List D), (F :: c :: .lst (os.map eN) :: (G ++ [.lst x, .lst y])).set (G.length + 4) (.lst z) = F :: c :: .lst (os.map eN) :: (G ++ [.lst x, .lst z]) := fun c x y z => by
      simp only [List.set_cons_succ]
      rw [List.set_append_right _ _ (by omega)]
      simp
    have hlenx : ∀ (c : Cell) (x y : List D), lenD [.ref (G.length + 3)] (F :: c :: .lst (os.map eN) :: (G ++ [.lst x, .lst y])) = some (.int x.length, F :: c :: .lst (os.map eN) :: (G ++ [.lst x, .lst y])) := fun c x y => by
      simp only [lenD, asQ, asL]
      rw [g3]
    refine ⟨decide (0 < lf.length), F :: c1 :: .lst (os.map eN) :: (G ++ [.lst (lf.map fun k => .int (k : Nat)), .lst (row.map fun k => .int (k : Nat))]), by simp [-List.cons_append, cB, cBin, cApp, cCons, cNil, cVar, cC, hlenx, cmpD], fun hz => ?_, fun hz => ?_⟩
    · -- the row is done
      have hz' : ¬ 0 < lf.length := of_decide_eq_false hz
      refine Ev.apnd (k := 2) (S1 := F :: c1 :: .lst (os.map eN) :: (G ++ [.lst (lf.map fun k => .int (k : Nat)), .lst (row.map fun k => .int (k : Nat))])) (S2 := F :: c1 :: .lst (os.map eN) :: (G ++ [.lst (lf.map fun k => .int (k : Nat)), .lst (row.map fun k => .int (k : Nat))])) (ds0 := os.map eN) (ds := os.map eN) (x := eN row) rfl rfl ?_ rfl (by simp; omega) ?_
      · have ht : tupleD [.ref (G.length + 4)] (F :: c1 :: .lst (os.map eN) :: (G ++ [.lst (lf.map fun k => .int (k : Nat)), .lst (row.map fun k => .int (k : Nat))])) = some (eN row, F :: c1 :: .lst (os.map eN) :: (G ++ [.lst (lf.map fun k => .int (k : Nat)), .lst (row.map fun k => .int (k : Nat))])) := by
          simp only [tupleD, asQ, asL]
          rw [g4]
          rfl
        exact cCons1 (by simp only [cCons, cApp, cNil, cVar, List.getElem?_cons_zero, List.getElem?_cons_succ]; exact ht)
      · refine ⟨pre ++ [(ow, ms)], os ++ [row], c1, G ++ [.lst (lf.map fun k => .int (k : Nat)), .lst (row.map fun k => .int (k : Nat))], _, _, _, _, by rw [hb]; simp, rfl, by simp, s1, paired_snoc hp ⟨fun ho => ?_, hrow⟩⟩
        have ho' : ow = "house" := ho
        rw [if_pos ho'] at hleft
        show row.length = ms.length
        omega
    · have hz' : 0 < lf.length := of_decide_eq_true hz
      obtain ⟨i, c2, s2, hi, hix⟩ : ∃ (i : Nat) (c2 : Cell), Sp F c2 ∧ i < lf.length ∧ cCons (cIf (cB (cBin gtD (cApp lenD (cCons (cVar 5) cNil)) (cC (.int 3)))) (cApp (nD 3 f__law_wont) (cCons (cVar 0) (cCons (cC (.str "order")) (cCons (cC (.int 4)) cNil)))) (cApp (nD 2 f__law_roll) (cCons (cVar 0) (cCons (cApp lenD (cCons (cVar 5) cNil)) cNil)))) cNil
          [some (.ref 1), some (eB b), some (.ref 2), some (.str ow), some (.tup (ms.map eM)), some (.ref (G.length + 3)), some (.ref (G.length + 4)), none] (F :: c1 :: .lst (os.map eN) :: (G ++ [.lst (lf.map fun k => .int (k : Nat)), .lst (row.map fun k => .int (k : Nat))])) = some ([.int i], F :: c2 :: .lst (os.map eN) :: (G ++ [.lst (lf.map fun k => .int (k : Nat)), .lst (row.map fun k => .int (k : Nat))])) := by
        by_cases h3 : 3 < lf.length
        · obtain ⟨d, c2, e, s2, v, rfl, hv⟩ := wont_ok (T := .lst (os.map eN) :: (G ++ [.lst (lf.map fun k => .int (k : Nat)), .lst (row.map fun k => .int (k : Nat))])) (n := "order") (m := 4) s1 (by decide +kernel) (by omega)
          refine ⟨v, c2, s2, by omega, ?_⟩
          have h3' : decide ((3 : Int) < (((lf.map fun k => D.int (k : Nat)).length : Nat) : Int)) = true := by simp; omega
          simp only [cCons, cIf, cB, cBin, cApp, cNil, cVar, cC, List.getElem?_cons_zero, List.getElem?_cons_succ, hlenx, cmpD, h3', nD, List.map_cons, List.map_nil, List.length_cons, List.length_nil, List.replicate, Nat.reduceSub, List.cons_append, List.nil_append, Nat.reduceAdd, Nat.zero_add, if_true]
          rw [e]
        · obtain ⟨d, c2, e, s2, v, rfl, hv⟩ := roll_ok (T := .lst (os.map eN) :: (G ++ [.lst (lf.map fun k => .int (k : Nat)), .lst (row.map fun k => .int (k : Nat))])) (m := lf.length) s1 (by omega)
          refine ⟨v, c2, s2, by omega, ?_⟩
          have h3' : decide ((3 : Int) < (((lf.map fun k => D.int (k : Nat)).length : Nat) : Int)) = false := by simp; omega
          simp only [cCons, cIf, cB, cBin, cApp, cNil, cVar, cC, List.getElem?_cons_zero, List.getElem?_cons_succ, hlenx, cmpD, h3', nD, List.map_cons, List.map_nil, List.length_cons, List.length_nil, List.replicate, Nat.reduceSub, List.cons_append, List.nil_append, Nat.reduceAdd, Nat.zero_add, if_true]
          rw [List.length_map, e]
      have hpop := cM_popAt (o := cVar 5) (S1 := F :: c1 :: .lst (os.map eN) :: (G ++ [.lst (lf.map fun k => .int (k : Nat)), .lst (row.map fun k => .int (k : Nat))])) (k := G.length + 3) (ds0 := lf.map fun k => D.int (k : Nat)) (ds := lf.map fun k => D.int (k : Nat)) (x := .int (lf[i] : Nat)) rfl (g3 _ _ _) hix (g3 _ _ _) (by simp [hi]) (by simp; omega)
      rw [t3, erase_map] at hpop
      refine Ev.apnd (k := G.length + 4) (S1 := F :: c1 :: .lst (os.map eN) :: (G ++ [.lst (lf.map fun k => .int (k : Nat)), .lst (row.map fun k => .int (k : Nat))])) (S2 := F :: c2 :: .lst (os.map eN) :: (G ++ [.lst ((lf.eraseIdx i).map fun k => .int (k : Nat)), .lst (row.map fun k => .int (k : Nat))])) (ds0 := row.map fun k => D.int (k : Nat)) (ds := row.map fun k => D.int (k : Nat)) (x := .int (lf[i] : Nat)) rfl (g4 _ _ _) (by
          exact cCons1 hpop) (g4 _ _ _) (by simp; omega) ?_
      rw [t4]
      have hel : (lf.eraseIdx i).length = lf.length - 1 := List.length_eraseIdx_of_lt hi
      refine ⟨lf.eraseIdx i, by rw [hel]; omega, row ++ [lf[i]], c2, rfl, by simp, s2, by simp [hel]; omega, fun k hk => hlf k (List.mem_of_mem_eraseIdx hk), fun k hk => ?_⟩
      rcases List.mem_append.mp hk with hk | hk
      · exact hrow k hk
      · rw [List.mem_singleton.mp hk]
        exact hlf _ (List.getElem_mem hi)
  · rintro ρ S ⟨pre, os, c', G, x3, x4, x5, x6, hb, rfl, rfl, hs, hp⟩
    rw [List.append_nil] at hb
    subst hb
    exact Ev.ret (d := eO os) (S' := F :: c' :: .lst (os.map eN) :: G) (by simp [sSeq, sSet, sRet, sExpr, sIf, gN, gT, gsCons, gsNil, cVar, cC, cBin, cUn, cNil, cCons, cApp, cB, cTr, cAnd, cOr, cNot, cV, cAndV, cOrV, cNotV, cIf, nD, mkTup, mkLst, mkBox, asQ, asL, negD, addD, subD, cmpD, isND, notND, eqD, neD, eqS, lenD, tupleD, DL.intD, cM, apnd, popM, sPar, sPar3, sNext, sAug, ipD, eO]) ⟨_, c', .lst (os.map eN) :: G, by simp, hs, below_eO _, os, rfl, hp⟩
end K84

/-! k84: which moves are looked at. -/
namespace K84
open PySem PySem.Spec PyProof.Rows L2 DL BK

def dMv : Mv := ⟨"", [], 0⟩
def mvA (b : Bk) (s n : Nat) : Mv := ((mvs b s)[n]?).getD dMv
theorem mvA_at {b : Bk} {s n : Nat} (h : n < (mvs b s).length) : (mvs b s)[n]? = some (mvA b s n) := by simp [mvA, h]
theorem mvA_p {b : Bk} (W : WB b) {s n : Nat} (h : n < (mvs b s).length) : (mvA b s n).p.length = b.T := W.mp (List.mem_of_getElem? (mvA_at h))
theorem mvA_t {b : Bk} (W : WB b) {s n : Nat} (h : n < (mvs b s).length) : (mvA b s n).to < b.sts.length := W.mt (List.mem_of_getElem? (mvA_at h))
/-- a place in order -/
structure PlW (b : Bk) (p : Plc) : Prop where
  s : p.1 < b.sts.length
  l : p.2.length = b.T
/-- where a move leads -/
def aft (b : Bk) (p : Plc) (n : Nat) : Lv := add p.2 (mvA b p.1 n).p
theorem aft_len {b : Bk} (W : WB b) {p : Plc} (hp : PlW b p) {n : Nat} (h : n < (mvs b p.1).length) : (aft b p n).length = b.T := by
  unfold aft
  rw [add_len (by rw [mvA_p W h, hp.l]), hp.l]
theorem aft_ne {b : Bk} (W : WB b) {p : Plc} (hp : PlW b p) {n : Nat} (h : n < (mvs b p.1).length) : aft b p n ≠ [] := by
  intro z
  have := aft_len W hp h
  rw [z] at this
  have := W.t1
  simp at *
  omega
def numsG (pk : Plc → Nat) (b : Bk) (p : Plc) : List Nat := if mvs b p.1 = [] then [] else if own b p.1 = "house" then [pk p] else List.range (mvs b p.1).length
structure PkOk (pk : Plc → Nat) (b : Bk) : Prop where
  lt : ∀ p, PlW b p → mvs b p.1 ≠ [] → own b p.1 = "house" → pk p < (mvs b p.1).length
theorem numsG_lt {pk : Plc → Nat} {b : Bk} (h : PkOk pk b) {p : Plc} (hp : PlW b p) {n : Nat} (hn : n ∈ numsG pk b p) : n < (mvs b p.1).length := by
  unfold numsG at hn
  split at hn
  · simp at hn
  · split at hn
    · rw [List.mem_singleton.mp hn]
      exact h.lt p hp (by assumption) (by assumption)
    · simpa using hn
theorem numsG_len {pk : Plc → Nat} {b : Bk} (W : WB b) (p : Plc) : (numsG pk b p).length ≤ 1000 := by
  unfold numsG
  split
  · simp
  · split
    · simp
    · simpa using W.ml p.1
/-! by an order -/
def rowA (o : List (List Nat)) (s : Nat) : List Nat := (o[s]?).getD []
theorem row_ok {b : Bk} {o : List (List Nat)} (h : ordOk b o) {s : Nat} (hs : s < b.sts.length) : o[s]? = some (rowA o s) ∧ (own b s = "house" → (rowA o s).length = (mvs b s).length) ∧ ∀ k ∈ rowA o s, k < (mvs b s).length := by
  obtain ⟨x, hx, hm, ho⟩ := mvs_at hs
  obtain ⟨r, hr, hrow⟩ := paired_at h hx
  have e : rowA o s = r := by simp [rowA, hr]
  rw [e, hm, ho]
  exact ⟨hr, hrow.1, hrow.2⟩
def findO (b : Bk) (s : Nat) (l : Lv) (row : List Nat) : Option Nat := row.find? fun n => !dry (add l (mvA b s n).p)
def pkO (b : Bk) (o : List (List Nat)) (p : Plc) : Nat := (findO b p.1 p.2 (rowA o p.1)).getD ((rowA o p.1).headD 0)
theorem pkO_mem {b : Bk} {o : List (List Nat)} {p : Plc} (h : rowA o p.1 ≠ []) : pkO b o p ∈ rowA o p.1 := by
  unfold pkO findO
  cases e : (rowA o p.1).find? (fun n => !dry (add p.2 (mvA b p.1 n).p)) with
  | some n => exact List.mem_of_find?_eq_some e
  | none =>
    cases hr : rowA o p.1 with
    | nil => exact absurd hr h
    | cons x r => simp
theorem row_ne {b : Bk} {o : List (List Nat)} (h : ordOk b o) {p : Plc} (hp : PlW b p) (hm : mvs b p.1 ≠ []) (ho : own b p.1 = "house") : rowA o p.1 ≠ [] := by
  intro z
  have := (row_ok h hp.s).2.1 ho
  rw [z] at this
  have := List.length_pos_iff.mpr hm
  simp at *
  omega
theorem pkO_ok {b : Bk} {o : List (List Nat)} (h : ordOk b o) : PkOk (pkO b o) b := ⟨fun p hp hm ho => (row_ok h hp.s).2.2 _ (pkO_mem (row_ne h hp hm ho))⟩
theorem ordered_ok {b : Bk} (W : WB b) {o : List (List Nat)} (h : ordOk b o) {p : Plc} (hp : PlW b p) (hm : mvs b p.1 ≠ []) (ho : own b p.1 = "house") {S : Store} : f_ordered_move [eB b, .int p.1, eL p.2, eO o] S = some (.int (pkO b o p), S) := by
  have hT := W.t2
  obtain ⟨hr, _, hlt⟩ := row_ok h hp.s
  have hne := row_ne h hp hm ho
  have hix : ∀ S : Store, ixD (eO o) (.int p.1) S = some (eN (rowA o p.1), S) := fun S => ixT hr
  refine call_ev ?_ rfl
  unfold c_ordered_move
  refine Ev.seq (Ev.for_ (S' := S) (fun n : Nat => .int (n : Nat)) (fun ns ρ S' => S' = S ∧ ∃ x4, ρ = [some (eB b), some (.int p.1), some (eL p.2), some (eO o), x4] ∧ (∀ k ∈ ns, k < (mvs b p.1).length) ∧ findO b p.1 p.2 (rowA o p.1) = findO b p.1 p.2 ns)
    (xs := (rowA o p.1).map fun n => .int (n : Nat)) (by simp [cItS, sSeq, sSet, sRet, sExpr, sIf, gN, gT, gsCons, gsNil, cVar, cC, cBin, cUn, cNil, cCons, cApp, cB, cTr, cAnd, cOr, cNot, cV, cAndV, cOrV, cNotV, cIf, nD, mkTup, mkLst, mkBox, asQ, asL, negD, addD, subD, cmpD, isND, notND, eqD, neD, eqS, lenD, tupleD, DL.intD, cM, apnd, popM, sPar, sPar3, sNext, sAug, ipD, hix, eN, itSeq]) rfl ⟨rfl, none, rfl, hlt, rfl⟩ ?_ ?_)
  · rintro y ys ρ S' ⟨rfl, x4, rfl, h1, h2⟩
    have hy := h1 y (by simp)
    refine ⟨_, rfl, Ev.ite (c := !dry (add p.2 (mvA b p.1 y).p)) (S' := S') ?_ (fun z => ?_) (fun z => Ev.next ⟨rfl, _, rfl, fun k hk => h1 k (by simp [hk]), ?_⟩)⟩
    · simp [sSeq, sSet, sRet, sExpr, sIf, gN, gT, gsCons, gsNil, cVar, cC, cBin, cUn, cNil, cCons, cApp, cB, cTr, cAnd, cOr, cNot, cV, cAndV, cOrV, cNotV, cIf, nD, mkTup, mkLst, mkBox, asQ, asL, negD, addD, subD, cmpD, isND, notND, eqD, neD, eqS, lenD, tupleD, DL.intD, cM, apnd, popM, sPar, sPar3, sNext, sAug, ipD, moves_ok hp.s, ixMs (mvA_at hy), ixM1, poured_ok (l := p.2) (by rw [hp.l]; omega), dry_ok (l := add p.2 (mvA b p.1 y).p) (by have := aft_len W hp hy; unfold aft at this; omega)]
    · refine Ev.ret (d := .int (pkO b o p)) (S' := S') ?_ ⟨[], by simp⟩
      have : pkO b o p = y := by
        unfold pkO
        rw [h2]
        simp [findO, List.find?_cons, z]
      rw [this]
      simp [sSeq, sSet, sRet, sExpr, sIf, gN, gT, gsCons, gsNil, cVar, cC, cBin, cUn, cNil, cCons, cApp, cB, cTr, cAnd, cOr, cNot, cV, cAndV, cOrV, cNotV, cIf, nD, mkTup, mkLst, mkBox, asQ, asL, negD, addD, subD, cmpD, isND, notND, eqD, neD, eqS, lenD, tupleD, DL.intD, cM, apnd, popM, sPar, sPar3, sNext, sAug, ipD]
    · rw [h2]
      simp only [findO, List.find?_cons, z]
  · rintro ρ S' ⟨rfl, x4, rfl, h1, h2⟩
    refine Ev.ret (d := .int (pkO b o p)) (S' := S') ?_ ⟨[], by simp⟩
    have h2' : findO b p.1 p.2 (rowA o p.1) = none := by rw [h2]; rfl
    obtain ⟨x, r, hxr⟩ := List.exists_cons_of_ne_nil hne
    have : pkO b o p = x := by unfold pkO; rw [h2', hxr]; rfl
    rw [this]
    have h0 : ∀ S : Store, ixD (eN (rowA o p.1)) (.int 0) S = some (.int x, S) := fun S => by rw [hxr]; exact ixN' (n := 0) rfl
    simp [sSeq, sSet, sRet, sExpr, sIf, gN, gT, gsCons, gsNil, cVar, cC, cBin, cUn, cNil, cCons, cApp, cB, cTr, cAnd, cOr, cNot, cV, cAndV, cOrV, cNotV, cIf, nD, mkTup, mkLst, mkBox, asQ, asL, negD, addD, subD, cmpD, isND, notND, eqD, neD, eqS, lenD, tupleD, DL.intD, cM, apnd, popM, sPar, sPar3, sNext, sAug, ipD, hix, h0]
theorem numbersAt_ok {b : Bk} (W : WB b) {o : List (List Nat)} (h : ordOk b o) {p : Plc} (hp : PlW b p) {S : Store} : f_numbers_at [eB b, eP p, eO o] S = some (.lst ((numsG (pkO b o) b p).map fun n => .int (n : Nat)), S) := by
  have hml := W.ml p.1
  have z1 : (1 : Nat) ≤ sizeLine := by rw [sizeLine_eq]; omega
  refine call_ev ?_ (belows_map fun _ _ => rfl)
  unfold c_numbers_at
  refine Ev.seq (Ev.set (d := eP p) (S' := S) (ρ' := [some (eB b), some (eP p), some (eO o), some (.int p.1), some (eL p.2)]) (by simp [sSeq, sSet, sRet, sExpr, sIf, gN, gT, gsCons, gsNil, cVar, cC, cBin, cUn, cNil, cCons, cApp, cB, cTr, cAnd, cOr, cNot, cV, cAndV, cOrV, cNotV, cIf, nD, mkTup, mkLst, mkBox, asQ, asL, negD, addD, subD, cmpD, isND, notND, eqD, neD, eqS, lenD, tupleD, DL.intD, cM, apnd, popM, sPar, sPar3, sNext, sAug, ipD]) (by simp [gT, gsCons, gN, gsNil, eP]) ?_)
  rcases W.o hp.s with ho | ho
  · have hne : ¬ ("house" : Str) = "outside" := by decide +kernel
    refine Ev.seq (Ev.ifF (S' := S) (by simp [sSeq, sSet, sRet, sExpr, sIf, gN, gT, gsCons, gsNil, cVar, cC, cBin, cUn, cNil, cCons, cApp, cB, cTr, cAnd, cOr, cNot, cV, cAndV, cOrV, cNotV, cIf, nD, mkTup, mkLst, mkBox, asQ, asL, negD, addD, subD, cmpD, isND, notND, eqD, neD, eqS, lenD, tupleD, DL.intD, cM, apnd, popM, sPar, sPar3, sNext, sAug, ipD, owner_ok hp.s, ho, hne]) (Ev.next ?_))
    by_cases hm : mvs b p.1 = []
    · exact Ev.ret (d := .lst ((numsG (pkO b o) b p).map fun n => .int (n : Nat))) (S' := S) (by simp [sSeq, sSet, sRet, sExpr, sIf, gN, gT, gsCons, gsNil, cVar, cC, cBin, cUn, cNil, cCons, cApp, cB, cTr, cAnd, cOr, cNot, cV, cAndV, cOrV, cNotV, cIf, nD, mkTup, mkLst, mkBox, asQ, asL, negD, addD, subD, cmpD, isND, notND, eqD, neD, eqS, lenD, tupleD, DL.intD, cM, apnd, popM, sPar, sPar3, sNext, sAug, ipD, rest_ok hp.s, hm, numsG]) ⟨[], by simp⟩
    · exact Ev.ret (d := .lst ((numsG (pkO b o) b p).map fun n => .int (n : Nat))) (S' := S) (by simp [sSeq, sSet, sRet, sExpr, sIf, gN, gT, gsCons, gsNil, cVar, cC, cBin, cUn, cNil, cCons, cApp, cB, cTr, cAnd, cOr, cNot, cV, cAndV, cOrV, cNotV, cIf, nD, mkTup, mkLst, mkBox, asQ, asL, negD, addD, subD, cmpD, isND, notND, eqD, neD, eqS, lenD, tupleD, DL.intD, cM, apnd, popM, sPar, sPar3, sNext, sAug, ipD, rest_ok hp.s, hm, numsG, ho, ordered_ok W h hp hm ho, z1]) ⟨[], by simp⟩
  · have hne : ¬ ("outside" : Str) = "house" := by decide +kernel
    refine Ev.seq (Ev.ifT (S' := S) (by simp [sSeq, sSet, sRet, sExpr, sIf, gN, gT, gsCons, gsNil, cVar, cC, cBin, cUn, cNil, cCons, cApp, cB, cTr, cAnd, cOr, cNot, cV, cAndV, cOrV, cNotV, cIf, nD, mkTup, mkLst, mkBox, asQ, asL, negD, addD, subD, cmpD, isND, notND, eqD, neD, eqS, lenD, tupleD, DL.intD, cM, apnd, popM, sPar, sPar3, sNext, sAug, ipD, owner_ok hp.s, ho]) ?_)
    refine Ev.ret (d := .lst ((numsG (pkO b o) b p).map fun n => .int (n : Nat))) (S' := S) ?_ ⟨[], by simp⟩
    rw [lrg (n := (mvs b p.1).length) (S' := S) (by simp [sSeq, sSet, sRet, sExpr, sIf, gN, gT, gsCons, gsNil, cVar, cC, cBin, cUn, cNil, cCons, cApp, cB, cTr, cAnd, cOr, cNot, cV, cAndV, cOrV, cNotV, cIf, nD, mkTup, mkLst, mkBox, asQ, asL, negD, addD, subD, cmpD, isND, notND, eqD, neD, eqS, lenD, tupleD, DL.intD, cM, apnd, popM, sPar, sPar3, sNext, sAug, ipD, moves_ok hp.s]) (by omega)]
    by_cases hm : mvs b p.1 = []
    · simp [numsG, hm]
    · simp [numsG, hm, ho, hne]
end K84

/-! k84: moves by a rule. -/
namespace K84
open PySem PySem.Spec PyProof.Rows L2 DL BK

inductive Rul where
  | first | highest | even
def eR : Rul → Str
  | .first => "first"
  | .highest => "highest"
  | .even => "even"
def worth (r : Rul) (l : Lv) : Int := match r with
  | .first => 0
  | .highest => l.sum
  | .even => minL l
abbrev Best := Option (Int × Nat)
def eBest : Best → D
  | none => .non
  | some x => .tup [.int x.1, .int x.2]
def better (best : Best) (v : Int) : Bool := match best with
  | none => true
  | some x => decide (x.1 < v)
def bstep (r : Rul) (l : Lv) (best : Best) (x : Mv × Nat) : Best := if dry (add l x.1.p) = false ∧ better best (worth r (add l x.1.p)) = true then some (worth r (add l x.1.p), x.2) else best
def bestR (r : Rul) (l : Lv) (ms : List (Mv × Nat)) (best : Best) : Best := ms.foldl (bstep r l) best
def bnum : Best → Nat
  | none => 0
  | some x => x.2
def pkR (b : Bk) (r : Rul) (p : Plc) : Nat := bnum (bestR r p.2 ((mvs b p.1).zipIdx) none)
theorem bestR_lt {r : Rul} {l : Lv} {n : Nat} : ∀ (ms : List (Mv × Nat)) (best : Best), (∀ x ∈ ms, x.2 < n) → (∀ x, best = some x → x.2 < n) → ∀ x, bestR r l ms best = some x → x.2 < n
  | [], best, _, h, x, e => h x e
  | m :: ms, best, h1, h2, x, e => by
    refine bestR_lt ms (bstep r l best m) (fun y hy => h1 y (by simp [hy])) (fun y hy => ?_) x e
    unfold bstep at hy
    split at hy
    · cases hy; exact h1 m (by simp)
    · exact h2 y hy
theorem pkR_lt {b : Bk} {r : Rul} {p : Plc} (h : mvs b p.1 ≠ []) : pkR b r p < (mvs b p.1).length := by
  unfold pkR
  have := List.length_pos_iff.mpr h
  cases e : bestR r p.2 ((mvs b p.1).zipIdx) none with
  | none => exact this
  | some x =>
    exact bestR_lt _ none (fun y hy => (List.getElem?_eq_some_iff.mp (zip_mem hy)).1) (fun y hy => by cases hy) x e
theorem pkR_ok {b : Bk} {r : Rul} : PkOk (pkR b r) b := ⟨fun p _ hm _ => pkR_lt hm⟩
theorem r1 : ¬ ("first" : Str) = "highest" := by decide +kernel
theorem r2 : ¬ ("first" : Str) = "even" := by decide +kernel
theorem r3 : ¬ ("even" : Str) = "highest" := by decide +kernel
theorem r4 : ¬ ("highest" : Str) = "even" := by decide +kernel
theorem worthBy_ok {r : Rul} {l : Lv} (hl : l ≠ []) {S : Store} : f_worth_by [.str (eR r), eL l] S = some (.int (worth r l), S) := by
  refine call_ev ?_ rfl
  unfold c_worth_by
  cases r with
  | first =>
    exact Ev.seq (Ev.ifF (S' := S) (by simp [sSeq, sSet, sRet, sExpr, sIf, gN, gT, gsCons, gsNil, cVar, cC, cBin, cUn, cNil, cCons, cApp, cB, cTr, cAnd, cOr, cNot, cV, cAndV, cOrV, cNotV, cIf, nD, mkTup, mkLst, mkBox, asQ, asL, negD, addD, subD, cmpD, isND, notND, eqD, neD, eqS, lenD, tupleD, DL.intD, cM, apnd, popM, sPar, sPar3, sNext, sAug, ipD, eR, r1]) (Ev.next (Ev.ret (d := .int (worth .first l)) (S' := S) (by simp [sSeq, sSet, sRet, sExpr, sIf, gN, gT, gsCons, gsNil, cVar, cC, cBin, cUn, cNil, cCons, cApp, cB, cTr, cAnd, cOr, cNot, cV, cAndV, cOrV, cNotV, cIf, nD, mkTup, mkLst, mkBox, asQ, asL, negD, addD, subD, cmpD, isND, notND, eqD, neD, eqS, lenD, tupleD, DL.intD, cM, apnd, popM, sPar, sPar3, sNext, sAug, ipD, eR, r2, worth]) ⟨[], by simp⟩)))
  | highest =>
    exact Ev.seq (Ev.ifT (S' := S) (by simp [sSeq, sSet, sRet, sExpr, sIf, gN, gT, gsCons, gsNil, cVar, cC, cBin, cUn, cNil, cCons, cApp, cB, cTr, cAnd, cOr, cNot, cV, cAndV, cOrV, cNotV, cIf, nD, mkTup, mkLst, mkBox, asQ, asL, negD, addD, subD, cmpD, isND, notND, eqD, neD, eqS, lenD, tupleD, DL.intD, cM, apnd, popM, sPar, sPar3, sNext, sAug, ipD, eR]) (Ev.ret (d := .int (worth .highest l)) (S' := S) (by simp [sSeq, sSet, sRet, sExpr, sIf, gN, gT, gsCons, gsNil, cVar, cC, cBin, cUn, cNil, cCons, cApp, cB, cTr, cAnd, cOr, cNot, cV, cAndV, cOrV, cNotV, cIf, nD, mkTup, mkLst, mkBox, asQ, asL, negD, addD, subD, cmpD, isND, notND, eqD, neD, eqS, lenD, tupleD, DL.intD, cM, apnd, popM, sPar, sPar3, sNext, sAug, ipD, sum_eL, worth]) ⟨[], by simp⟩))
  | even =>
    exact Ev.seq (Ev.ifF (S' := S) (by simp [sSeq, sSet, sRet, sExpr, sIf, gN, gT, gsCons, gsNil, cVar, cC, cBin, cUn, cNil, cCons, cApp, cB, cTr, cAnd, cOr, cNot, cV, cAndV, cOrV, cNotV, cIf, nD, mkTup, mkLst, mkBox, asQ, asL, negD, addD, subD, cmpD, isND, notND, eqD, neD, eqS, lenD, tupleD, DL.intD, cM, apnd, popM, sPar, sPar3, sNext, sAug, ipD, eR, r3]) (Ev.next (Ev.ret (d := .int (worth .even l)) (S' := S) (by simp [sSeq, sSet, sRet, sExpr, sIf, gN, gT, gsCons, gsNil, cVar, cC, cBin, cUn, cNil, cCons, cApp, cB, cTr, cAnd, cOr, cNot, cV, cAndV, cOrV, cNotV, cIf, nD, mkTup, mkLst, mkBox, asQ, asL, negD, addD, subD, cmpD, isND, notND, eqD, neD, eqS, lenD, tupleD, DL.intD, cM, apnd, popM, sPar, sPar3, sNext, sAug, ipD, eR, min_eL hl, worth]) ⟨[], by simp⟩)))
theorem add_ne {b : Bk} (W : WB b) {l : Lv} (hl : l.length = b.T) {s : Nat} {m : Mv} (hm : m ∈ mvs b s) : add l m.p ≠ [] ∧ (add l m.p).length = b.T := by
  have h1 : (add l m.p).length = b.T := by rw [add_len (by rw [W.mp hm, hl]), hl]
  refine ⟨fun z => ?_, h1⟩
  rw [z] at h1
  have := W.t1
  simp at h1
  omega
theorem ruleMove_ok {b : Bk} (W : WB b) {r : Rul} {p : Plc} (hp : PlW b p) {S : Store} : f_rule_move [eB b, .str (eR r), .int p.1, eL p.2] S = some (.int (pkR b r p), S) := by
  have hT := W.t2
  have z2 : (2 : Nat) ≤ sizeLine := by rw [sizeLine_eq]; omega
  refine call_ev ?_ rfl
  unfold c_rule_move
  refine Ev.seq (Ev.setN (d := eBest none) (S' := S) (by simp [sSeq, sSet, sRet, sExpr, sIf, gN, gT, gsCons, gsNil, cVar, cC, cBin, cUn, cNil, cCons, cApp, cB, cTr, cAnd, cOr, cNot, cV, cAndV, cOrV, cNotV, cIf, nD, mkTup, mkLst, mkBox, asQ, asL, negD, addD, subD, cmpD, isND, notND, eqD, neD, eqS, lenD, tupleD, DL.intD, cM, apnd, popM, sPar, sPar3, sNext, sAug, ipD, eBest]) ?_)
  refine Ev.seq (Ev.for_ (S' := S) (fun x : Mv × Nat => .tup [.int (x.2 : Nat), eM x.1]) (fun ms ρ S' => S' = S ∧ ∃ (best : Best) (x5 x6 x7 x8 : Option D), ρ = [some (eB b), some (.str (eR r)), some (.int p.1), some (eL p.2), some (eBest best), x5, x6, x7, x8] ∧ (∀ x ∈ ms, x.1 ∈ mvs b p.1) ∧ bestR r p.2 ((mvs b p.1).zipIdx) none = bestR r p.2 ms best)
    (xs := enumFrom 0 ((mvs b p.1).map eM)) (by simp [cEnum, sSeq, sSet, sRet, sExpr, sIf, gN, gT, gsCons, gsNil, cVar, cC, cBin, cUn, cNil, cCons, cApp, cB, cTr, cAnd, cOr, cNot, cV, cAndV, cOrV, cNotV, cIf, nD, mkTup, mkLst, mkBox, asQ, asL, negD, addD, subD, cmpD, isND, notND, eqD, neD, eqS, lenD, tupleD, DL.intD, cM, apnd, popM, sPar, sPar3, sNext, sAug, ipD, moves_ok hp.s, itEnum]) (enum_map _ _ _) ⟨rfl, none, none, none, none, none, rfl, fun x hx => List.mem_of_getElem? (zip_mem hx), rfl⟩ ?_ ?_)
  · rintro ⟨m, n⟩ ms ρ S' ⟨rfl, best, x5, x6, x7, x8, rfl, h1, h2⟩
    obtain ⟨hne, hlen⟩ : add p.2 m.p ≠ [] ∧ (add p.2 m.p).length = b.T := add_ne W hp.l (h1 (m, n) (by simp))
    refine ⟨_, by simp [gT, gsCons, gN, gsNil]; rfl, ?_⟩
    refine Ev.seq (Ev.setN (d := eL (add p.2 m.p)) (S' := S') (by simp [sSeq, sSet, sRet, sExpr, sIf, gN, gT, gsCons, gsNil, cVar, cC, cBin, cUn, cNil, cCons, cApp, cB, cTr, cAnd, cOr, cNot, cV, cAndV, cOrV, cNotV, cIf, nD, mkTup, mkLst, mkBox, asQ, asL, negD, addD, subD, cmpD, isND, notND, eqD, neD, eqS, lenD, tupleD, DL.intD, cM, apnd, popM, sPar, sPar3, sNext, sAug, ipD, ixM1, poured_ok (l := p.2) (by rw [hp.l]; omega)]) ?_)
    have next : ∀ (best' : Best) (x5 x6 x7 x8 : Option D), bstep r p.2 best (m, n) = best' → (S' = S' ∧ ∃ (best : Best) (y5 y6 y7 y8 : Option D), [some (eB b), some (.str (eR r)), some (.int p.1), some (eL p.2), some (eBest best'), x5, x6, x7, x8] = [some (eB b), some (.str (eR r)), some (.int p.1), some (eL p.2), some (eBest best), y5, y6, y7, y8] ∧ (∀ x ∈ ms, x.1 ∈ mvs b p.1) ∧ bestR r p.2 ((mvs b p.1).zipIdx) none = bestR r p.2 ms best) := fun best' x5 x6 x7 x8 e => ⟨rfl, best', x5, x6, x7, x8, rfl, fun x hx => h1 x (by simp [hx]), by rw [h2, ← e]; rfl⟩
    cases hd : dry (add p.2 m.p) with
    | true =>
      refine Ev.ifF (S' := S') (by simp [sSeq, sSet, sRet, sExpr, sIf, gN, gT, gsCons, gsNil, cVar, cC, cBin, cUn, cNil, cCons, cApp, cB, cTr, cAnd, cOr, cNot, cV, cAndV, cOrV, cNotV, cIf, nD, mkTup, mkLst, mkBox, asQ, asL, negD, addD, subD, cmpD, isND, notND, eqD, neD, eqS, lenD, tupleD, DL.intD, cM, apnd, popM, sPar, sPar3, sNext, sAug, ipD, dry_ok (l := add p.2 m.p) (by omega), hd]) (Ev.next (next best _ _ _ _ (by simp [bstep, hd])))
    | false =>
      refine Ev.ifT (S' := S') (by simp [sSeq, sSet, sRet, sExpr, sIf, gN, gT, gsCons, gsNil, cVar, cC, cBin, cUn, cNil, cCons, cApp, cB, cTr, cAnd, cOr, cNot, cV, cAndV, cOrV, cNotV, cIf, nD, mkTup, mkLst, mkBox, asQ, asL, negD, addD, subD, cmpD, isND, notND, eqD, neD, eqS, lenD, tupleD, DL.intD, cM, apnd, popM, sPar, sPar3, sNext, sAug, ipD, dry_ok (l := add p.2 m.p) (by omega), hd]) ?_
      refine Ev.seq (Ev.setN (d := .int (worth r (add p.2 m.p))) (S' := S') (by simp [sSeq, sSet, sRet, sExpr, sIf, gN, gT, gsCons, gsNil, cVar, cC, cBin, cUn, cNil, cCons, cApp, cB, cTr, cAnd, cOr, cNot, cV, cAndV, cOrV, cNotV, cIf, nD, mkTup, mkLst, mkBox, asQ, asL, negD, addD, subD, cmpD, isND, notND, eqD, neD, eqS, lenD, tupleD, DL.intD, cM, apnd, popM, sPar, sPar3, sNext, sAug, ipD, worthBy_ok hne]) ?_)
      cases best with
      | none =>
        refine Ev.ifT (S' := S') (by simp [sSeq, sSet, sRet, sExpr, sIf, gN, gT, gsCons, gsNil, cVar, cC, cBin, cUn, cNil, cCons, cApp, cB, cTr, cAnd, cOr, cNot, cV, cAndV, cOrV, cNotV, cIf, nD, mkTup, mkLst, mkBox, asQ, asL, negD, addD, subD, cmpD, isND, notND, eqD, neD, eqS, lenD, tupleD, DL.intD, cM, apnd, popM, sPar, sPar3, sNext, sAug, ipD, eBest]) (Ev.setN (d := eBest (some (worth r (add p.2 m.p), n))) (S' := S') (by simp [sSeq, sSet, sRet, sExpr, sIf, gN, gT, gsCons, gsNil, cVar, cC, cBin, cUn, cNil, cCons, cApp, cB, cTr, cAnd, cOr, cNot, cV, cAndV, cOrV, cNotV, cIf, nD, mkTup, mkLst, mkBox, asQ, asL, negD, addD, subD, cmpD, isND, notND, eqD, neD, eqS, lenD, tupleD, DL.intD, cM, apnd, popM, sPar, sPar3, sNext, sAug, ipD, eBest, z2]) (next _ _ _ _ _ (by simp [bstep, hd, better])))
      | some x =>
        have hix : ∀ S : Store, ixD (.tup [.int x.1, .int x.2]) (.int 0) S = some (.int x.1, S) := fun _ => rfl
        by_cases hb : x.1 < worth r (add p.2 m.p)
        · refine Ev.ifT (S' := S') (by simp [sSeq, sSet, sRet, sExpr, sIf, gN, gT, gsCons, gsNil, cVar, cC, cBin, cUn, cNil, cCons, cApp, cB, cTr, cAnd, cOr, cNot, cV, cAndV, cOrV, cNotV, cIf, nD, mkTup, mkLst, mkBox, asQ, asL, negD, addD, subD, cmpD, isND, notND, eqD, neD, eqS, lenD, tupleD, DL.intD, cM, apnd, popM, sPar, sPar3, sNext, sAug, ipD, eBest, hix, hb]) (Ev.setN (d := eBest (some (worth r (add p.2 m.p), n))) (S' := S') (by simp [sSeq, sSet, sRet, sExpr, sIf, gN, gT, gsCons, gsNil, cVar, cC, cBin, cUn, cNil, cCons, cApp, cB, cTr, cAnd, cOr, cNot, cV, cAndV, cOrV, cNotV, cIf, nD, mkTup, mkLst, mkBox, asQ, asL, negD, addD, subD, cmpD, isND, notND, eqD, neD, eqS, lenD, tupleD, DL.intD, cM, apnd, popM, sPar, sPar3, sNext, sAug, ipD, eBest, z2]) (next _ _ _ _ _ (by simp [bstep, hd, better, hb])))
        · refine Ev.ifF (S' := S') (by simp [sSeq, sSet, sRet, sExpr, sIf, gN, gT, gsCons, gsNil, cVar, cC, cBin, cUn, cNil, cCons, cApp, cB, cTr, cAnd, cOr, cNot, cV, cAndV, cOrV, cNotV, cIf, nD, mkTup, mkLst, mkBox, asQ, asL, negD, addD, subD, cmpD, isND, notND, eqD, neD, eqS, lenD, tupleD, DL.intD, cM, apnd, popM, sPar, sPar3, sNext, sAug, ipD, eBest, hix]; omega) (Ev.next (next (some x) _ _ _ _ (by simp [bstep, hd, better, hb])))
  · rintro ρ S' ⟨rfl, best, x5, x6, x7, x8, rfl, h1, h2⟩
    refine Ev.ret (d := .int (pkR b r p)) (S' := S') ?_ ⟨[], by simp⟩
    have e : pkR b r p = bnum best := by unfold pkR; rw [h2]; rfl
    rw [e]
    cases best with
    | none => simp [sSeq, sSet, sRet, sExpr, sIf, gN, gT, gsCons, gsNil, cVar, cC, cBin, cUn, cNil, cCons, cApp, cB, cTr, cAnd, cOr, cNot, cV, cAndV, cOrV, cNotV, cIf, nD, mkTup, mkLst, mkBox, asQ, asL, negD, addD, subD, cmpD, isND, notND, eqD, neD, eqS, lenD, tupleD, DL.intD, cM, apnd, popM, sPar, sPar3, sNext, sAug, ipD, eBest, bnum]
    | some x =>
      have hix : ∀ S : Store, ixD (.tup [.int x.1, .int x.2]) (.int 1) S = some (.int x.2, S) := fun _ => rfl
      simp [sSeq, sSet, sRet, sExpr, sIf, gN, gT, gsCons, gsNil, cVar, cC, cBin, cUn, cNil, cCons, cApp, cB, cTr, cAnd, cOr, cNot, cV, cAndV, cOrV, cNotV, cIf, nD, mkTup, mkLst, mkBox, asQ, asL, negD, addD, subD, cmpD, isND, notND, eqD, neD, eqS, lenD, tupleD, DL.intD, cM, apnd, popM, sPar, sPar3, sNext, sAug, ipD, eBest, bnum, hix]
theorem numbersBy_ok {b : Bk} (W : WB b) {r : Rul} {p : Plc} (hp : PlW b p) {S : Store} : f_numbers_by [eB b, .str (eR r), eP p] S = some (.lst ((numsG (pkR b r) b p).map fun n => .int (n : Nat)), S) := by
  have hml := W.ml p.1
  have z1 : (1 : Nat) ≤ sizeLine := by rw [sizeLine_eq]; omega
  refine call_ev ?_ (belows_map fun _ _ => rfl)
  unfold c_numbers_by
  refine Ev.seq (Ev.set (d := eP p) (S' := S) (ρ' := [some (eB b), some (.str (eR r)), some (eP p), some (.int p.1), some (eL p.2)]) (by simp [sSeq, sSet, sRet, sExpr, sIf, gN, gT, gsCons, gsNil, cVar, cC, cBin, cUn, cNil, cCons, cApp, cB, cTr, cAnd, cOr, cNot, cV, cAndV, cOrV, cNotV, cIf, nD, mkTup, mkLst, mkBox, asQ, asL, negD, addD, subD, cmpD, isND, notND, eqD, neD, eqS, lenD, tupleD, DL.intD, cM, apnd, popM, sPar, sPar3, sNext, sAug, ipD]) (by simp [gT, gsCons, gN, gsNil, eP]) ?_)
  by_cases hm : mvs b p.1 = []
  · exact Ev.seq (Ev.ifT (S' := S) (by simp [sSeq, sSet, sRet, sExpr, sIf, gN, gT, gsCons, gsNil, cVar, cC, cBin, cUn, cNil, cCons, cApp, cB, cTr, cAnd, cOr, cNot, cV, cAndV, cOrV, cNotV, cIf, nD, mkTup, mkLst, mkBox, asQ, asL, negD, addD, subD, cmpD, isND, notND, eqD, neD, eqS, lenD, tupleD, DL.intD, cM, apnd, popM, sPar, sPar3, sNext, sAug, ipD, rest_ok hp.s, hm]) (Ev.ret (d := .lst ((numsG (pkR b r) b p).map fun n => .int (n : Nat))) (S' := S) (by simp [sSeq, sSet, sRet, sExpr, sIf, gN, gT, gsCons, gsNil, cVar, cC, cBin, cUn, cNil, cCons, cApp, cB, cTr, cAnd, cOr, cNot, cV, cAndV, cOrV, cNotV, cIf, nD, mkTup, mkLst, mkBox, asQ, asL, negD, addD, subD, cmpD, isND, notND, eqD, neD, eqS, lenD, tupleD, DL.intD, cM, apnd, popM, sPar, sPar3, sNext, sAug, ipD, hm, numsG]) ⟨[], by simp⟩))
  refine Ev.seq (Ev.ifF (S' := S) (by simp [sSeq, sSet, sRet, sExpr, sIf, gN, gT, gsCons, gsNil, cVar, cC, cBin, cUn, cNil, cCons, cApp, cB, cTr, cAnd, cOr, cNot, cV, cAndV, cOrV, cNotV, cIf, nD, mkTup, mkLst, mkBox, asQ, asL, negD, addD, subD, cmpD, isND, notND, eqD, neD, eqS, lenD, tupleD, DL.intD, cM, apnd, popM, sPar, sPar3, sNext, sAug, ipD, rest_ok hp.s, hm]) (Ev.next ?_))
  rcases W.o hp.s with ho | ho
  · exact Ev.seq (Ev.ifT (S' := S) (by simp [sSeq, sSet, sRet, sExpr, sIf, gN, gT, gsCons, gsNil, cVar, cC, cBin, cUn, cNil, cCons, cApp, cB, cTr, cAnd, cOr, cNot, cV, cAndV, cOrV, cNotV, cIf, nD, mkTup, mkLst, mkBox, asQ, asL, negD, addD, subD, cmpD, isND, notND, eqD, neD, eqS, lenD, tupleD, DL.intD, cM, apnd, popM, sPar, sPar3, sNext, sAug, ipD, owner_ok hp.s, ho]) (Ev.ret (d := .lst ((numsG (pkR b r) b p).map fun n => .int (n : Nat))) (S' := S) (by simp [sSeq, sSet, sRet, sExpr, sIf, gN, gT, gsCons, gsNil, cVar, cC, cBin, cUn, cNil, cCons, cApp, cB, cTr, cAnd, cOr, cNot, cV, cAndV, cOrV, cNotV, cIf, nD, mkTup, mkLst, mkBox, asQ, asL, negD, addD, subD, cmpD, isND, notND, eqD, neD, eqS, lenD, tupleD, DL.intD, cM, apnd, popM, sPar, sPar3, sNext, sAug, ipD, numsG, hm, ho, ruleMove_ok W hp, z1]) ⟨[], by simp⟩))
  · have hne : ¬ ("outside" : Str) = "house" := by decide +kernel
    refine Ev.seq (Ev.ifF (S' := S) (by simp [sSeq, sSet, sRet, sExpr, sIf, gN, gT, gsCons, gsNil, cVar, cC, cBin, cUn, cNil, cCons, cApp, cB, cTr, cAnd, cOr, cNot, cV, cAndV, cOrV, cNotV, cIf, nD, mkTup, mkLst, mkBox, asQ, asL, negD, addD, subD, cmpD, isND, notND, eqD, neD, eqS, lenD, tupleD, DL.intD, cM, apnd, popM, sPar, sPar3, sNext, sAug, ipD, owner_ok hp.s, ho, hne]) (Ev.next ?_))
    refine Ev.ret (d := .lst ((numsG (pkR b r) b p).map fun n => .int (n : Nat))) (S' := S) ?_ ⟨[], by simp⟩
    rw [lrg (n := (mvs b p.1).length) (S' := S) (by simp [sSeq, sSet, sRet, sExpr, sIf, gN, gT, gsCons, gsNil, cVar, cC, cBin, cUn, cNil, cCons, cApp, cB, cTr, cAnd, cOr, cNot, cV, cAndV, cOrV, cNotV, cIf, nD, mkTup, mkLst, mkBox, asQ, asL, negD, addD, subD, cmpD, isND, notND, eqD, neD, eqS, lenD, tupleD, DL.intD, cM, apnd, popM, sPar, sPar3, sNext, sAug, ipD, moves_ok hp.s]) (by omega)]
    simp [numsG, hm, ho, hne]
end K84

/-! k84: the law's own picks. -/
namespace K84
open PySem PySem.Spec PyProof.Rows L2 DL BK

inductive Pol where
  | ord (o : List (List Nat)) | rul (r : Rul)
def eQ : Pol → D
  | .ord o => eO o
  | .rul r => .str (eR r)
def polOk (b : Bk) : Pol → Prop
  | .ord o => ordOk b o
  | .rul _ => True
def pkQ (b : Bk) : Pol → Plc → Nat
  | .ord o => pkO b o
  | .rul r => pkR b r
theorem pkQ_ok {b : Bk} {q : Pol} (h : polOk b q) : PkOk (pkQ b q) b := by
  cases q with
  | ord o => exact pkO_ok h
  | rul r => exact pkR_ok
abbrev numsQ (b : Bk) (q : Pol) (p : Plc) : List Nat := numsG (pkQ b q) b p
theorem lruled_ok {b : Bk} (W : WB b) {r : Rul} {p : Plc} (hp : PlW b p) {S : Store} : f__law_ruled [.tup ((mvs b p.1).map eM), .str (eR r), eL p.2] S = some (.int (pkR b r p), S) := by
  have hT := W.t2
  have hml := W.ml p.1
  have z2 : (2 : Nat) ≤ sizeLine := by rw [sizeLine_eq]; omega
  refine call_ev ?_ rfl
  unfold c__law_ruled
  refine Ev.seq (Ev.setN (d := eBest none) (S' := S) (by simp [sSeq, sSet, sRet, sExpr, sIf, gN, gT, gsCons, gsNil, cVar, cC, cBin, cUn, cNil, cCons, cApp, cB, cTr, cAnd, cOr, cNot, cV, cAndV, cOrV, cNotV, cIf, nD, mkTup, mkLst, mkBox, asQ, asL, negD, addD, subD, cmpD, isND, notND, eqD, neD, eqS, lenD, tupleD, DL.intD, cM, apnd, popM, sPar, sPar3, sNext, sAug, ipD, eBest]) ?_)
  refine Ev.seq (Ev.for_ (S' := S) (fun n : Nat => .int (n : Nat)) (fun ks ρ S' => ∃ (j : Nat) (best : Best) (G : Store) (x4 x5 x6 : Option D), ks = List.range' j ((mvs b p.1).length - j) ∧ j ≤ (mvs b p.1).length ∧ S' = S ++ G ∧ ρ = [some (.tup ((mvs b p.1).map eM)), some (.str (eR r)), some (eL p.2), some (eBest best), x4, x5, x6] ∧ bestR r p.2 ((mvs b p.1).zipIdx) none = bestR r p.2 (((mvs b p.1).zipIdx).drop j) best)
    (rng1 (n := (mvs b p.1).length) (by simp [sSeq, sSet, sRet, sExpr, sIf, gN, gT, gsCons, gsNil, cVar, cC, cBin, cUn, cNil, cCons, cApp, cB, cTr, cAnd, cOr, cNot, cV, cAndV, cOrV, cNotV, cIf, nD, mkTup, mkLst, mkBox, asQ, asL, negD, addD, subD, cmpD, isND, notND, eqD, neD, eqS, lenD, tupleD, DL.intD, cM, apnd, popM, sPar, sPar3, sNext, sAug, ipD]) (by omega)) rfl ⟨0, none, [], none, none, none, by rw [List.range_eq_range']; simp, Nat.zero_le _, by simp, rfl, by simp⟩ ?_ ?_)
  · rintro n ks ρ S' ⟨j, best, G, x4, x5, x6, hk, hj, rfl, rfl, h2⟩
    obtain ⟨rfl, hlt, rfl⟩ := rng_at hk hj
    have hm := mvA_at hlt
    have hmem : mvA b p.1 n ∈ mvs b p.1 := List.mem_of_getElem? hm
    obtain ⟨hne, hlen⟩ := add_ne W hp.l hmem
    generalize mvA b p.1 n = m at hm hmem hne hlen
    have hdr : ((mvs b p.1).zipIdx).drop n = (m, n) :: ((mvs b p.1).zipIdx).drop (n + 1) := by
      have hl : n < ((mvs b p.1).zipIdx).length := by simpa using hlt
      rw [List.drop_eq_getElem_cons hl]
      congr 1
      rw [List.getElem_zipIdx]
      have : (mvs b p.1)[n] = m := by
        rw [List.getElem?_eq_getElem hlt] at hm
        exact Option.some.inj hm
      simp [this]
    rw [hdr] at h2
    refine ⟨_, rfl, ?_⟩
    refine Ev.seq (Ev.setN (d := eL (add p.2 m.p)) (S' := S ++ G) (by simp [sSeq, sSet, sRet, sExpr, sIf, gN, gT, gsCons, gsNil, cVar, cC, cBin, cUn, cNil, cCons, cApp, cB, cTr, cAnd, cOr, cNot, cV, cAndV, cOrV, cNotV, cIf, nD, mkTup, mkLst, mkBox, asQ, asL, negD, addD, subD, cmpD, isND, notND, eqD, neD, eqS, lenD, tupleD, DL.intD, cM, apnd, popM, sPar, sPar3, sNext, sAug, ipD, ixMs hm, lpour_ok (l := p.2) (m := m) (by rw [hp.l]; omega) (by rw [W.mp hmem, hp.l])]) ?_)
    -- the worth, out of a new dict
    obtain ⟨c, hw⟩ : ∃ c : Cell, cBin dGetD (cDispK [((cC (.str "first")), (cC (.int 0))), ((cC (.str "highest")), (cApp sum3D (cCons (cVar 5) cNil))), ((cC (.str "even")), (cApp min2D (cCons (cVar 5) cNil)))]) (cVar 1)
        [some (.tup ((mvs b p.1).map eM)), some (.str (eR r)), some (eL p.2), some (eBest best), some (.int n), some (eL (add p.2 m.p)), x6] (S ++ G) = some (.int (worth r (add p.2 m.p)), S ++ G ++ [c]) := by
      refine ⟨.dK false [(.inr "first", .int 0), (.inr "highest", .int (add p.2 m.p).sum), (.inr "even", .int (minL (add p.2 m.p)))], ?_⟩
      have r1' : ¬ ("highest" : Str) = "first" := fun z => r1 z.symm
      have r2' : ¬ ("even" : Str) = "first" := fun z => r2 z.symm
      have r4' : ¬ ("even" : Str) = "highest" := fun z => r4 z.symm
      have hd : cDispK [((cC (.str "first")), (cC (.int 0))), ((cC (.str "highest")), (cApp sum3D (cCons (cVar 5) cNil))), ((cC (.str "even")), (cApp min2D (cCons (cVar 5) cNil)))] [some (.tup ((mvs b p.1).map eM)), some (.str (eR r)), some (eL p.2), some (eBest best), some (.int n), some (eL (add p.2 m.p)), x6] (S ++ G)
          = some (.ref (S ++ G).length, (S ++ G) ++ [.dK false [(.inr "first", .int 0), (.inr "highest", .int (add p.2 m.p).sum), (.inr "even", .int (minL (add p.2 m.p)))]]) := by
        simp [cDispK, cPrs, sSeq, sSet, sRet, sExpr, sIf, gN, gT, gsCons, gsNil, cVar, cC, cBin, cUn, cNil, cCons, cApp, cB, cTr, cAnd, cOr, cNot, cV, cAndV, cOrV, cNotV, cIf, nD, mkTup, mkLst, mkBox, asQ, asL, negD, addD, subD, cmpD, isND, notND, eqD, neD, eqS, lenD, tupleD, DL.intD, cM, apnd, popM, sPar, sPar3, sNext, sAug, ipD, sum_eL, min_eL hne, keysK, keyK, kMerge, kPut, r1, r2, r4]
      unfold cBin
      rw [hd]
      simp only [cVar, List.getElem?_cons_zero, List.getElem?_cons_succ, dGetD]
      have hl : ∀ kvs : List (Key × D), lookD ((S ++ G) ++ [.dK false kvs]) (.ref (S ++ G).length) (.str (eR r)) = some (kLook kvs (.inr (eR r))) := fun kvs => by simp [lookD, keyK]
      rw [hl]
      cases r <;> simp [kLook, eR, r1, r2, r4, worth]
    refine Ev.seq (Ev.setN (d := .int (worth r (add p.2 m.p))) (S' := S ++ G ++ [c]) (by exact hw) ?_)
    have next : ∀ (best' : Best) (x4 x5 x6 : Option D), bstep r p.2 best (m, n) = best' → ∃ (j : Nat) (best : Best) (G' : Store) (y4 y5 y6 : Option D), List.range' (n + 1) ((mvs b p.1).length - (n + 1)) = List.range' j ((mvs b p.1).length - j) ∧ j ≤ (mvs b p.1).length ∧ S ++ G ++ [c] = S ++ G' ∧ [some (.tup ((mvs b p.1).map eM)), some (.str (eR r)), some (eL p.2), some (eBest best'), x4, x5, x6] = [some (.tup ((mvs b p.1).map eM)), some (.str (eR r)), some (eL p.2), some (eBest best), y4, y5, y6] ∧ bestR r p.2 ((mvs b p.1).zipIdx) none = bestR r p.2 (((mvs b p.1).zipIdx).drop j) best :=
      fun best' x4 x5 x6 e => ⟨n + 1, best', G ++ [c], x4, x5, x6, rfl, hlt, by simp, rfl, by rw [h2, ← e]; rfl⟩
    have hmin : decide (0 ≤ minL (add p.2 m.p)) = !dry (add p.2 m.p) := by
      have := minL_dry hne
      cases hd : dry (add p.2 m.p) with
      | true => rw [hd] at this; simp at this; simp; omega
      | false => rw [hd] at this; simp at this; simp; omega
    cases hd : dry (add p.2 m.p) with
    | true =>
      rw [hd] at hmin
      exact Ev.ifF (S' := S ++ G ++ [c]) (by simp only [cAnd, cB, cBin, cApp, cCons, cNil, cVar, cC, List.getElem?_cons_zero, List.getElem?_cons_succ, List.set_cons_zero, List.set_cons_succ, min_eL hne, cmpD, hmin]; rfl) (Ev.next (next best _ _ _ (by simp [bstep, hd])))
    | false =>
      rw [hd] at hmin
      have h0 : cB (cBin geD (cApp min2D (cCons (cVar 5) cNil)) (cC (.int 0))) [some (.tup ((mvs b p.1).map eM)), some (.str (eR r)), some (eL p.2), some (eBest best), some (.int n), some (eL (add p.2 m.p)), some (.int (worth r (add p.2 m.p)))] (S ++ G ++ [c]) = some (true, S ++ G ++ [c]) := by
        simp only [cB, cBin, cApp, cCons, cNil, cVar, cC, List.getElem?_cons_zero, List.getElem?_cons_succ, min_eL hne, cmpD, hmin]
        rfl
      cases best with
      | none =>
        refine Ev.ifT (S' := S ++ G ++ [c]) ?_ (Ev.setN (d := eBest (some (worth r (add p.2 m.p), n))) (S' := S ++ G ++ [c]) (by simp [sSeq, sSet, sRet, sExpr, sIf, gN, gT, gsCons, gsNil, cVar, cC, cBin, cUn, cNil, cCons, cApp, cB, cTr, cAnd, cOr, cNot, cV, cAndV, cOrV, cNotV, cIf, nD, mkTup, mkLst, mkBox, asQ, asL, negD, addD, subD, cmpD, isND, notND, eqD, neD, eqS, lenD, tupleD, DL.intD, cM, apnd, popM, sPar, sPar3, sNext, sAug, ipD, eBest, z2]) (next _ _ _ _ (by simp [bstep, hd, better])))
        show cAnd _ _ [some (.tup ((mvs b p.1).map eM)), some (.str (eR r)), some (eL p.2), some (eBest none), some (.int n), some (eL (add p.2 m.p)), some (.int (worth r (add p.2 m.p)))] (S ++ G ++ [c]) = _
        unfold cAnd
        rw [h0]
        simp [sSeq, sSet, sRet, sExpr, sIf, gN, gT, gsCons, gsNil, cVar, cC, cBin, cUn, cNil, cCons, cApp, cB, cTr, cAnd, cOr, cNot, cV, cAndV, cOrV, cNotV, cIf, nD, mkTup, mkLst, mkBox, asQ, asL, negD, addD, subD, cmpD, isND, notND, eqD, neD, eqS, lenD, tupleD, DL.intD, cM, apnd, popM, sPar, sPar3, sNext, sAug, ipD, eBest]
      | some x =>
        have hix : ∀ S : Store, ixD (.tup [.int x.1, .int x.2]) (.int 0) S = some (.int x.1, S) := fun _ => rfl
        by_cases hb : x.1 < worth r (add p.2 m.p)
        · refine Ev.ifT (S' := S ++ G ++ [c]) ?_ (Ev.setN (d := eBest (some (worth r (add p.2 m.p), n))) (S' := S ++ G ++ [c]) (by simp [sSeq, sSet, sRet, sExpr, sIf, gN, gT, gsCons, gsNil, cVar, cC, cBin, cUn, cNil, cCons, cApp, cB, cTr, cAnd, cOr, cNot, cV, cAndV, cOrV, cNotV, cIf, nD, mkTup, mkLst, mkBox, asQ, asL, negD, addD, subD, cmpD, isND, notND, eqD, neD, eqS, lenD, tupleD, DL.intD, cM, apnd, popM, sPar, sPar3, sNext, sAug, ipD, eBest, z2]) (next _ _ _ _ (by simp [bstep, hd, better, hb])))
          show cAnd _ _ [some (.tup ((mvs b p.1).map eM)), some (.str (eR r)), some (eL p.2), some (eBest (some x)), some (.int n), some (eL (add p.2 m.p)), some (.int (worth r (add p.2 m.p)))] (S ++ G ++ [c]) = _
          unfold cAnd
          rw [h0]
          simp [sSeq, sSet, sRet, sExpr, sIf, gN, gT, gsCons, gsNil, cVar, cC, cBin, cUn, cNil, cCons, cApp, cB, cTr, cAnd, cOr, cNot, cV, cAndV, cOrV, cNotV, cIf, nD, mkTup, mkLst, mkBox, asQ, asL, negD, addD, subD, cmpD, isND, notND, eqD, neD, eqS, lenD, tupleD, DL.intD, cM, apnd, popM, sPar, sPar3, sNext, sAug, ipD, eBest, hix, hb]
        · refine Ev.ifF (S' := S ++ G ++ [c]) ?_ (Ev.next (next (some x) _ _ _ (by simp [bstep, hd, better, hb])))
          show cAnd _ _ [some (.tup ((mvs b p.1).map eM)), some (.str (eR r)), some (eL p.2), some (eBest (some x)), some (.int n), some (eL (add p.2 m.p)), some (.int (worth r (add p.2 m.p)))] (S ++ G ++ [c]) = _
          unfold cAnd
          rw [h0]
          simp [sSeq, sSet, sRet, sExpr, sIf, gN, gT, gsCons, gsNil, cVar, cC, cBin, cUn, cNil, cCons, cApp, cB, cTr, cAnd, cOr, cNot, cV, cAndV, cOrV, cNotV, cIf, nD, mkTup, mkLst, mkBox, asQ, asL, negD, addD, subD, cmpD, isND, notND, eqD, neD, eqS, lenD, tupleD, DL.intD, cM, apnd, popM, sPar, sPar3, sNext, sAug, ipD, eBest, hix]
          omega
  · rintro ρ S' ⟨j, best, G, x4, x5, x6, hk, hj, rfl, rfl, h2⟩
    have hjn := rng_end hk hj
    rw [List.drop_of_length_le (by simp; omega)] at h2
    refine Ev.ret (d := .int (pkR b r p)) (S' := S ++ G) ?_ ⟨G, rfl⟩
    have e : pkR b r p = bnum best := by unfold pkR; rw [h2]; rfl
    rw [e]
    cases best with
    | none => simp [sSeq, sSet, sRet, sExpr, sIf, gN, gT, gsCons, gsNil, cVar, cC, cBin, cUn, cNil, cCons, cApp, cB, cTr, cAnd, cOr, cNot, cV, cAndV, cOrV, cNotV, cIf, nD, mkTup, mkLst, mkBox, asQ, asL, negD, addD, subD, cmpD, isND, notND, eqD, neD, eqS, lenD, tupleD, DL.intD, cM, apnd, popM, sPar, sPar3, sNext, sAug, ipD, eBest, bnum]
    | some x =>
      have hix : ∀ S : Store, ixD (.tup [.int x.1, .int x.2]) (.int 1) S = some (.int x.2, S) := fun _ => rfl
      simp [sSeq, sSet, sRet, sExpr, sIf, gN, gT, gsCons, gsNil, cVar, cC, cBin, cUn, cNil, cCons, cApp, cB, cTr, cAnd, cOr, cNot, cV, cAndV, cOrV, cNotV, cIf, nD, mkTup, mkLst, mkBox, asQ, asL, negD, addD, subD, cmpD, isND, notND, eqD, neD, eqS, lenD, tupleD, DL.intD, cM, apnd, popM, sPar, sPar3, sNext, sAug, ipD, eBest, bnum, hix]
end K84

/-! k84: the law's turns, what is spilt. -/
namespace K84
open PySem PySem.Spec PyProof.Rows L2 DL BK

theorem isS (o : List (List Nat)) (S : Store) : isiD "str" (eO o) S = some (.bl false, S) := by simp [isiD, tyD, eO, k_ts]
theorem isS' (x : Str) (S : Store) : isiD "str" (.str x) S = some (.bl true, S) := by simp [isiD, tyD, k_ss]
theorem lpick_ok {b : Bk} (W : WB b) {q : Pol} (h : polOk b q) {p : Plc} (hp : PlW b p) (hm : mvs b p.1 ≠ []) (ho : own b p.1 = "house") {S : Store} : f__law_pick [eB b, eQ q, eP p] S = some (.int (pkQ b q p), S) := by
  have hT := W.t2
  obtain ⟨x, hx, hmx, hox⟩ := ixSt hp.s
  refine call_ev ?_ rfl
  unfold c__law_pick
  refine Ev.seq (Ev.setN (d := .tup ((mvs b p.1).map eM)) (S' := S) (by simp [sSeq, sSet, sRet, sExpr, sIf, gN, gT, gsCons, gsNil, cVar, cC, cBin, cUn, cNil, cCons, cApp, cB, cTr, cAnd, cOr, cNot, cV, cAndV, cOrV, cNotV, cIf, nD, mkTup, mkLst, mkBox, asQ, asL, negD, addD, subD, cmpD, isND, notND, eqD, neD, eqS, lenD, tupleD, DL.intD, cM, apnd, popM, sPar, sPar3, sNext, sAug, ipD, ixB1, ixP0, hx, ixS1, hmx]) ?_)
  cases q with
  | rul r =>
    exact Ev.seq (Ev.ifT (S' := S) (by simp [sSeq, sSet, sRet, sExpr, sIf, gN, gT, gsCons, gsNil, cVar, cC, cBin, cUn, cNil, cCons, cApp, cB, cTr, cAnd, cOr, cNot, cV, cAndV, cOrV, cNotV, cIf, nD, mkTup, mkLst, mkBox, asQ, asL, negD, addD, subD, cmpD, isND, notND, eqD, neD, eqS, lenD, tupleD, DL.intD, cM, apnd, popM, sPar, sPar3, sNext, sAug, ipD, eQ, isS']) (Ev.ret (d := .int (pkR b r p)) (S' := S) (by simp [sSeq, sSet, sRet, sExpr, sIf, gN, gT, gsCons, gsNil, cVar, cC, cBin, cUn, cNil, cCons, cApp, cB, cTr, cAnd, cOr, cNot, cV, cAndV, cOrV, cNotV, cIf, nD, mkTup, mkLst, mkBox, asQ, asL, negD, addD, subD, cmpD, isND, notND, eqD, neD, eqS, lenD, tupleD, DL.intD, cM, apnd, popM, sPar, sPar3, sNext, sAug, ipD, eQ, ixP1, lruled_ok W hp]) ⟨[], by simp [pkQ]⟩))
  | ord o =>
    have h : ordOk b o := h
    obtain ⟨hr, _, hlt⟩ := row_ok h hp.s
    have hne := row_ne h hp hm ho
    have hix : ∀ S : Store, ixD (eO o) (.int p.1) S = some (eN (rowA o p.1), S) := fun S => ixT hr
    refine Ev.seq (Ev.ifF (S' := S) (by simp [sSeq, sSet, sRet, sExpr, sIf, gN, gT, gsCons, gsNil, cVar, cC, cBin, cUn, cNil, cCons, cApp, cB, cTr, cAnd, cOr, cNot, cV, cAndV, cOrV, cNotV, cIf, nD, mkTup, mkLst, mkBox, asQ, asL, negD, addD, subD, cmpD, isND, notND, eqD, neD, eqS, lenD, tupleD, DL.intD, cM, apnd, popM, sPar, sPar3, sNext, sAug, ipD, eQ, isS]) (Ev.next ?_))
    refine Ev.seq (Ev.for_ (S' := S) (fun n : Nat => .int (n : Nat)) (fun ns ρ S' => S' = S ∧ ∃ x4, ρ = [some (eB b), some (eO o), some (eP p), some (.tup ((mvs b p.1).map eM)), x4] ∧ (∀ k ∈ ns, k < (mvs b p.1).length) ∧ findO b p.1 p.2 (rowA o p.1) = findO b p.1 p.2 ns)
      (xs := (rowA o p.1).map fun n => .int (n : Nat)) (by simp [cItS, sSeq, sSet, sRet, sExpr, sIf, gN, gT, gsCons, gsNil, cVar, cC, cBin, cUn, cNil, cCons, cApp, cB, cTr, cAnd, cOr, cNot, cV, cAndV, cOrV, cNotV, cIf, nD, mkTup, mkLst, mkBox, asQ, asL, negD, addD, subD, cmpD, isND, notND, eqD, neD, eqS, lenD, tupleD, DL.intD, cM, apnd, popM, sPar, sPar3, sNext, sAug, ipD, eQ, ixP0, hix, eN, itSeq]) rfl ⟨rfl, none, rfl, hlt, rfl⟩ ?_ ?_)
    · rintro y ys ρ S' ⟨rfl, x4, rfl, h1, h2⟩
      have hy := h1 y (by simp)
      have hmem : mvA b p.1 y ∈ mvs b p.1 := List.mem_of_getElem? (mvA_at hy)
      obtain ⟨hn2, hlen⟩ := add_ne W hp.l hmem
      have hmin : decide (0 ≤ minL (add p.2 (mvA b p.1 y).p)) = !dry (add p.2 (mvA b p.1 y).p) := by
        have := minL_dry hn2
        cases hd : dry (add p.2 (mvA b p.1 y).p) with
        | true => rw [hd] at this; simp at this; simp; omega
        | false => rw [hd] at this; simp at this; simp; omega
      refine ⟨_, rfl, Ev.ite (c := !dry (add p.2 (mvA b p.1 y).p)) (S' := S') ?_ (fun z => ?_) (fun z => Ev.next ⟨rfl, _, rfl, fun k hk => h1 k (by simp [hk]), ?_⟩)⟩
      · simp [sSeq, sSet, sRet, sExpr, sIf, gN, gT, gsCons, gsNil, cVar, cC, cBin, cUn, cNil, cCons, cApp, cB, cTr, cAnd, cOr, cNot, cV, cAndV, cOrV, cNotV, cIf, nD, mkTup, mkLst, mkBox, asQ, asL, negD, addD, subD, cmpD, isND, notND, eqD, neD, eqS, lenD, tupleD, DL.intD, cM, apnd, popM, sPar, sPar3, sNext, sAug, ipD, ixMs (mvA_at hy), ixP1, lpour_ok (l := p.2) (m := mvA b p.1 y) (by rw [hp.l]; omega) (by rw [W.mp hmem, hp.l]), min_eL hn2]
        simpa using hmin
      · refine Ev.ret (d := .int (pkO b o p)) (S' := S') ?_ ⟨[], by simp [pkQ]⟩
        have : pkO b o p = y := by
          unfold pkO
          rw [h2]
          simp [findO, List.find?_cons, z]
        rw [this]
        simp [sSeq, sSet, sRet, sExpr, sIf, gN, gT, gsCons, gsNil, cVar, cC, cBin, cUn, cNil, cCons, cApp, cB, cTr, cAnd, cOr, cNot, cV, cAndV, cOrV, cNotV, cIf, nD, mkTup, mkLst, mkBox, asQ, asL, negD, addD, subD, cmpD, isND, notND, eqD, neD, eqS, lenD, tupleD, DL.intD, cM, apnd, popM, sPar, sPar3, sNext, sAug, ipD]
      · rw [h2]
        simp only [findO, List.find?_cons, z]
    · rintro ρ S' ⟨rfl, x4, rfl, h1, h2⟩
      refine Ev.ret (d := .int (pkO b o p)) (S' := S') ?_ ⟨[], by simp [pkQ]⟩
      have h2' : findO b p.1 p.2 (rowA o p.1) = none := by rw [h2]; rfl
      obtain ⟨x, r, hxr⟩ := List.exists_cons_of_ne_nil hne
      have : pkO b o p = x := by unfold pkO; rw [h2', hxr]; rfl
      rw [this]
      have h0 : ∀ S : Store, ixD (eN (rowA o p.1)) (.int 0) S = some (.int x, S) := fun S => by rw [hxr]; exact ixN' (n := 0) rfl
      simp [sSeq, sSet, sRet, sExpr, sIf, gN, gT, gsCons, gsNil, cVar, cC, cBin, cUn, cNil, cCons, cApp, cB, cTr, cAnd, cOr, cNot, cV, cAndV, cOrV, cNotV, cIf, nD, mkTup, mkLst, mkBox, asQ, asL, negD, addD, subD, cmpD, isND, notND, eqD, neD, eqS, lenD, tupleD, DL.intD, cM, apnd, popM, sPar, sPar3, sNext, sAug, ipD, ixP0, hix, h0]
theorem lturns_ok {b : Bk} (W : WB b) {q : Pol} (h : polOk b q) {p : Plc} (hp : PlW b p) {S : Store} : f__law_turns [eB b, eQ q, eP p] S = some (.lst ((numsQ b q p).map fun n => .int (n : Nat)), S) := by
  have hml := W.ml p.1
  have z1 : (1 : Nat) ≤ sizeLine := by rw [sizeLine_eq]; omega
  obtain ⟨x, hx, hmx, hox⟩ := ixSt hp.s
  have exx : x = (own b p.1, mvs b p.1) := by rw [hmx, hox]
  subst exx
  refine call_ev ?_ (belows_map fun _ _ => rfl)
  unfold c__law_turns
  refine Ev.seq (Ev.set (d := eS (own b p.1, mvs b p.1)) (S' := S) (ρ' := [some (eB b), some (eQ q), some (eP p), some (.str (own b p.1)), some (.tup ((mvs b p.1).map eM)), none]) (by simp [sSeq, sSet, sRet, sExpr, sIf, gN, gT, gsCons, gsNil, cVar, cC, cBin, cUn, cNil, cCons, cApp, cB, cTr, cAnd, cOr, cNot, cV, cAndV, cOrV, cNotV, cIf, nD, mkTup, mkLst, mkBox, asQ, asL, negD, addD, subD, cmpD, isND, notND, eqD, neD, eqS, lenD, tupleD, DL.intD, cM, apnd, popM, sPar, sPar3, sNext, sAug, ipD, ixB1, ixP0, hx]) (by simp [gT, gsCons, gN, gsNil, eS]) ?_)
  by_cases hm : mvs b p.1 = []
  · exact Ev.seq (Ev.ifT (S' := S) (by simp [sSeq, sSet, sRet, sExpr, sIf, gN, gT, gsCons, gsNil, cVar, cC, cBin, cUn, cNil, cCons, cApp, cB, cTr, cAnd, cOr, cNot, cV, cAndV, cOrV, cNotV, cIf, nD, mkTup, mkLst, mkBox, asQ, asL, negD, addD, subD, cmpD, isND, notND, eqD, neD, eqS, lenD, tupleD, DL.intD, cM, apnd, popM, sPar, sPar3, sNext, sAug, ipD, hm]) (Ev.ret (d := .lst ((numsQ b q p).map fun n => .int (n : Nat))) (S' := S) (by simp [sSeq, sSet, sRet, sExpr, sIf, gN, gT, gsCons, gsNil, cVar, cC, cBin, cUn, cNil, cCons, cApp, cB, cTr, cAnd, cOr, cNot, cV, cAndV, cOrV, cNotV, cIf, nD, mkTup, mkLst, mkBox, asQ, asL, negD, addD, subD, cmpD, isND, notND, eqD, neD, eqS, lenD, tupleD, DL.intD, cM, apnd, popM, sPar, sPar3, sNext, sAug, ipD, hm, numsQ, numsG]) ⟨[], by simp [pkQ]⟩))
  refine Ev.seq (Ev.ifF (S' := S) (by simp [sSeq, sSet, sRet, sExpr, sIf, gN, gT, gsCons, gsNil, cVar, cC, cBin, cUn, cNil, cCons, cApp, cB, cTr, cAnd, cOr, cNot, cV, cAndV, cOrV, cNotV, cIf, nD, mkTup, mkLst, mkBox, asQ, asL, negD, addD, subD, cmpD, isND, notND, eqD, neD, eqS, lenD, tupleD, DL.intD, cM, apnd, popM, sPar, sPar3, sNext, sAug, ipD, hm]) (Ev.next ?_))
  rcases W.o hp.s with ho | ho
  · exact Ev.ret (d := .lst ((numsQ b q p).map fun n => .int (n : Nat))) (S' := S) (by simp [sSeq, sSet, sRet, sExpr, sIf, gN, gT, gsCons, gsNil, cVar, cC, cBin, cUn, cNil, cCons, cApp, cB, cTr, cAnd, cOr, cNot, cV, cAndV, cOrV, cNotV, cIf, nD, mkTup, mkLst, mkBox, asQ, asL, negD, addD, subD, cmpD, isND, notND, eqD, neD, eqS, lenD, tupleD, DL.intD, cM, apnd, popM, sPar, sPar3, sNext, sAug, ipD, numsQ, numsG, hm, ho, lpick_ok W h hp hm ho, z1]) ⟨[], by simp⟩
  · have hne : ¬ ("outside" : Str) = "house" := by decide +kernel
    refine Ev.ret (d := .lst ((numsQ b q p).map fun n => .int (n : Nat))) (S' := S) ?_ ⟨[], by simp⟩
    have hc := cLC_map (S := S) (ρ := [some (eB b), some (eQ q), some (eP p), some (.str (own b p.1)), some (.tup ((mvs b p.1).map eM)), none]) (vs := [5]) (ci := cRng1 (cApp lenD (cCons (cVar 4) cNil))) (g := gN 5) (e := cVar 5)
      (l := List.range (mvs b p.1).length) (fun k => D.int (k : Nat)) (fun k => D.int (k : Nat)) (rng1 (n := (mvs b p.1).length) (by simp [sSeq, sSet, sRet, sExpr, sIf, gN, gT, gsCons, gsNil, cVar, cC, cBin, cUn, cNil, cCons, cApp, cB, cTr, cAnd, cOr, cNot, cV, cAndV, cOrV, cNotV, cIf, nD, mkTup, mkLst, mkBox, asQ, asL, negD, addD, subD, cmpD, isND, notND, eqD, neD, eqS, lenD, tupleD, DL.intD, cM, apnd, popM, sPar, sPar3, sNext, sAug, ipD]) (by omega)) rfl (small (by simp; omega)) (fun q hq => ⟨_, rfl, rfl⟩)
    have ht : cB (cBin eqD (cVar 3) (cC (.str "house"))) [some (eB b), some (eQ q), some (eP p), some (.str (own b p.1)), some (.tup ((mvs b p.1).map eM)), none] S = some (false, S) := by simp [sSeq, sSet, sRet, sExpr, sIf, gN, gT, gsCons, gsNil, cVar, cC, cBin, cUn, cNil, cCons, cApp, cB, cTr, cAnd, cOr, cNot, cV, cAndV, cOrV, cNotV, cIf, nD, mkTup, mkLst, mkBox, asQ, asL, negD, addD, subD, cmpD, isND, notND, eqD, neD, eqS, lenD, tupleD, DL.intD, cM, apnd, popM, sPar, sPar3, sNext, sAug, ipD, ho, hne]
    unfold cIf
    rw [ht]
    simp only
    rw [hc]
    simp [numsQ, numsG, hm, ho, hne]
/-- sizes, or none -/
abbrev Sz := Option Lv
def eZ : Sz → D
  | none => .non
  | some z => eL z
def spl (z : Sz) (l : Lv) : Lv := match z with
  | none => l
  | some z => List.zipWith min l z
theorem spl_len {z : Sz} {l : Lv} (h : ∀ y, z = some y → y.length = l.length) : (spl z l).length = l.length := by
  cases z with
  | none => rfl
  | some y => simp [spl, h y rfl]
theorem spl_at {l y : Lv} (h : y.length = l.length) {t : Nat} (ht : t < l.length) : gt (List.zipWith min l y) t = min (gt l t) (gt y t) := by
  have h2 : t < y.length := by omega
  simp [gt, List.getD, List.getElem?_zipWith, ht, h2]
theorem lspilt_ok {z : Sz} {l : Lv} (h : ∀ y, z = some y → y.length = l.length) (hl : l.length ≤ 100000) {S : Store} : f__law_spilt [eL l, eZ z] S = some (eL (spl z l), S) := by
  refine call_rt0 ?_ (below_eL _)
  cases z with
  | none => simp [c__law_spilt, sSeq, sSet, sRet, sExpr, sIf, gN, gT, gsCons, gsNil, cVar, cC, cBin, cUn, cNil, cCons, cApp, cB, cTr, cAnd, cOr, cNot, cV, cAndV, cOrV, cNotV, cIf, nD, mkTup, mkLst, mkBox, asQ, asL, negD, addD, subD, cmpD, isND, notND, eqD, neD, eqS, lenD, tupleD, DL.intD, cM, apnd, popM, sPar, sPar3, sNext, sAug, ipD, eZ, spl]
  | some y =>
    have hy := h y rfl
    have hc := cLC_map (S := S) (ρ := [some (eL l), some (eL y), none]) (vs := [2]) (ci := cRng1 (cApp lenD (cCons (cVar 0) cNil))) (g := gN 2) (e := cApp min2D (cCons (cBin ixD (cVar 0) (cVar 2)) (cCons (cBin ixD (cVar 1) (cVar 2)) cNil)))
      (l := List.range l.length) (fun i => D.int (i : Nat)) (fun t => .int (min (gt l t) (gt y t))) (rng1 (n := l.length) (by simp [sSeq, sSet, sRet, sExpr, sIf, gN, gT, gsCons, gsNil, cVar, cC, cBin, cUn, cNil, cCons, cApp, cB, cTr, cAnd, cOr, cNot, cV, cAndV, cOrV, cNotV, cIf, nD, mkTup, mkLst, mkBox, asQ, asL, negD, addD, subD, cmpD, isND, notND, eqD, neD, eqS, lenD, tupleD, DL.intD, cM, apnd, popM, sPar, sPar3, sNext, sAug, ipD, eL]) (by omega)) rfl (small (by simpa using hl))
      (fun q hq => ⟨_, rfl, by
        have h1 := List.mem_range.mp hq
        simp [sSeq, sSet, sRet, sExpr, sIf, gN, gT, gsCons, gsNil, cVar, cC, cBin, cUn, cNil, cCons, cApp, cB, cTr, cAnd, cOr, cNot, cV, cAndV, cOrV, cNotV, cIf, nD, mkTup, mkLst, mkBox, asQ, asL, negD, addD, subD, cmpD, isND, notND, eqD, neD, eqS, lenD, tupleD, DL.intD, cM, apnd, popM, sPar, sPar3, sNext, sAug, ipD, wipeD, ixL h1, ixL (l := y) (t := q) (by omega), min2D]⟩)
    rw [ext_map (v := List.zipWith min l y) (by simp [hy]) fun t ht => (spl_at hy ht).symm] at hc
    simp only [c__law_spilt, sRet, cIf, cB, cBin, cC, cApp, cCons, cNil, List.map_cons, List.map_nil, List.length_cons, List.length_nil, List.replicate, Nat.reduceSub, List.cons_append, List.nil_append, Nat.reduceAdd, Nat.zero_add, cVar, eZ, List.getElem?_cons_zero, List.getElem?_cons_succ, List.set_cons_zero, List.set_cons_succ, List.append_nil]
    have hn : ∀ S : Store, isND (eL y) .non S = some (.bl false, S) := fun _ => rfl
    simp only [hn]
    rw [hc]
    simp [tupleD, asQ, asL, eL, spl]
theorem spl_dry {z : Sz} {l : Lv} (h : ∀ y, z = some y → y.length = l.length ∧ ∀ t, t < y.length → 0 ≤ gt y t) : dry (spl z l) = dry l := by
  cases z with
  | none => rfl
  | some y =>
    obtain ⟨h1, h2⟩ := h y rfl
    rw [Bool.eq_iff_iff, dry_iff, dry_iff]
    have hl : (spl (some y) l).length = l.length := by simp [spl, h1]
    constructor
    · rintro ⟨t, ht, hlt⟩
      rw [hl] at ht
      refine ⟨t, ht, ?_⟩
      have e : gt (spl (some y) l) t = min (gt l t) (gt y t) := spl_at h1 ht
      have := h2 t (by omega)
      omega
    · rintro ⟨t, ht, hlt⟩
      refine ⟨t, by rw [hl]; exact ht, ?_⟩
      have e : gt (spl (some y) l) t = min (gt l t) (gt y t) := spl_at h1 ht
      omega
end K84

/-! k84: the graph. -/
namespace K84
open PySem PySem.Spec PyProof.Rows L2 DL BK

def nx (b : Bk) (z : Sz) (p : Plc) (n : Nat) : Plc := ((mvA b p.1 n).to, spl z (aft b p n))
def scQ (b : Bk) (q : Pol) (z : Sz) (p : Plc) : List (Nat × Plc) := (numsQ b q p).filterMap fun n => if dry (aft b p n) = true then none else some (n, nx b z p n)
def exQ (b : Bk) (q : Pol) (p : Plc) : Bool := (numsQ b q p).any fun n => dry (aft b p n)
/-- the sizes are in order -/
def szOk (b : Bk) (z : Sz) : Prop := ∀ y, z = some y → y.length = b.T ∧ ∀ t, t < y.length → 0 ≤ gt y t
theorem szOk.l {b : Bk} {z : Sz} (h : szOk b z) {l : Lv} (hl : l.length = b.T) : ∀ y, z = some y → y.length = l.length := fun y e => by rw [(h y e).1, hl]
theorem sc_mem {b : Bk} {q : Pol} {z : Sz} {p : Plc} {x : Nat × Plc} (h : x ∈ scQ b q z p) : x.1 ∈ numsQ b q p ∧ dry (aft b p x.1) = false ∧ x.2 = nx b z p x.1 := by
  obtain ⟨n, hn, e⟩ := List.mem_filterMap.mp h
  split at e
  · cases e
  · rename_i hd
    cases e
    exact ⟨hn, by simpa using hd, rfl⟩
theorem mem_sc {b : Bk} {q : Pol} {z : Sz} {p : Plc} {n : Nat} (hn : n ∈ numsQ b q p) (hd : dry (aft b p n) = false) : (n, nx b z p n) ∈ scQ b q z p :=
  List.mem_filterMap.mpr ⟨n, hn, by rw [if_neg (by simp [hd])]⟩
theorem sc_len {b : Bk} {q : Pol} {z : Sz} {p : Plc} : (scQ b q z p).length ≤ (numsQ b q p).length := List.length_filterMap_le _ _
theorem sc_all {b : Bk} {q : Pol} {z : Sz} {p : Plc} (h : exQ b q p = false) : scQ b q z p = (numsQ b q p).map fun n => (n, nx b z p n) := by
  unfold exQ at h
  rw [← Bool.not_eq_true, List.any_eq_true] at h
  unfold scQ
  generalize numsQ b q p = l at h ⊢
  induction l with
  | nil => rfl
  | cons n l ih =>
    have hd : ¬ dry (aft b p n) = true := fun z => h ⟨n, by simp, z⟩
    rw [List.filterMap_cons, if_neg hd, List.map_cons, ih fun ⟨m, h1, h2⟩ => h ⟨m, by simp [h1], h2⟩]
theorem nx_w {b : Bk} (W : WB b) {q : Pol} (h : polOk b q) {z : Sz} (hz : szOk b z) {p : Plc} (hp : PlW b p) {n : Nat} (hn : n ∈ numsQ b q p) : PlW b (nx b z p n) := by
  have hlt := numsG_lt (pkQ_ok h) hp hn
  have hl := aft_len W hp hlt
  exact ⟨mvA_t W hlt, by show (spl z (aft b p n)).length = _; rw [spl_len (hz.l hl), hl]⟩
theorem R_w {b : Bk} (W : WB b) {q : Pol} (h : polOk b q) {z : Sz} (hz : szOk b z) {st : Plc} (hs : PlW b st) {k : Nat} {p : Plc} (hr : G.R (scQ b q z) st k p) : PlW b p := by
  induction hr with
  | zero => exact hs
  | succ _ e ih =>
    obtain ⟨h1, _, h3⟩ := sc_mem e
    simp only at h3
    rw [h3]
    exact nx_w W h hz ih h1
/-- the rounds -/
def runQ (b : Bk) (q : Pol) (z : Sz) (st : Plc) : Nat → Came × List Plc
  | 0 => ([(st, none)], [st])
  | k + 1 => G.layr (scQ b q z) (runQ b q z st k).2 (runQ b q z st k).1
/-- no way out so far -/
def quiet (b : Bk) (q : Pol) (z : Sz) (st : Plc) (k : Nat) : Prop := ∀ j, j < k → ∀ p ∈ (runQ b q z st j).2, exQ b q p = false
theorem run_bi {b : Bk} {q : Pol} {z : Sz} {st : Plc} : ∀ {k : Nat}, quiet b q z st k → G.BI (scQ b q z) st (exQ b q) k (runQ b q z st k).1 (runQ b q z st k).2
  | 0, _ => G.bi_start
  | k + 1, h => G.bi_step (run_bi fun j hj => h j (by omega)) (h k (by omega))
/-- few enough places as long as nothing is found -/
def Few (b : Bk) (q : Pol) (z : Sz) (st : Plc) (most : Nat) : Prop := ∀ k, k < most → quiet b q z st k → (runQ b q z st k).1.length ≤ 9000
/-- what a search of so many moves finds -/
def Fnd (b : Bk) (q : Pol) (z : Sz) (st : Plc) (most : Nat) : Option (List Nat) → Prop
  | none => ∀ j, j < most → ∀ p, G.R (scQ b q z) st j p → exQ b q p = false
  | some pl => ∃ ns n p, pl = ns ++ [n] ∧ ns.length < most ∧ G.W (scQ b q z) st ns p ∧ n ∈ numsQ b q p ∧ dry (aft b p n) = true ∧ ∀ j, j < ns.length → ∀ x, G.R (scQ b q z) st j x → exQ b q x = false
def eF : Option (List Nat) → D
  | none => .non
  | some ns => eN ns
theorem below_eF (r : Option (List Nat)) : below 0 (eF r) = true := by
  cases r with
  | none => rfl
  | some ns => exact below_eN ns
theorem ledback_ok {sc : Plc → List (Nat × Plc)} {st : Plc} {S : Store} {k : Nat} {lk : Bool} {c : Came} {p : Plc} {ns : List Nat} (hk : S[k]? = some (.dN lk (eC c))) (h : G.Pth sc st c p ns) (hn : ns.length < 100000) : f_led_back [.ref k, eP p] S = some (eN ns, S) := by
  have z0 : (0 : Nat) ≤ sizeLine := Nat.zero_le _
  have hg : ∀ c : Cell, (S ++ [c])[S.length]? = some c := fun c => by simp
  have hkl : k < S.length := (List.getElem?_eq_some_iff.mp hk).1
  have lat : ∀ (T : Store) (p : Plc), lookD (S ++ T) (.ref k) (eP p) = some ((G.clook c p).map eV) := fun T p => lookN (lk := lk) (by rw [List.getElem?_append_left hkl]; exact hk)
  refine call_ev ?_ (below_eN _)
  unfold c_led_back
  refine Ev.seq (Ev.setN (d := .ref S.length) (S' := S ++ [.lst []]) (by simp [sSeq, sSet, sRet, sExpr, sIf, gN, gT, gsCons, gsNil, cVar, cC, cBin, cUn, cNil, cCons, cApp, cB, cTr, cAnd, cOr, cNot, cV, cAndV, cOrV, cNotV, cIf, nD, mkTup, mkLst, mkBox, asQ, asL, negD, addD, subD, cmpD, isND, notND, eqD, neD, eqS, lenD, tupleD, DL.intD, cM, apnd, popM, sPar, sPar3, sNext, sAug, ipD]) ?_)
  refine Ev.seq (Ev.while_ (fun (x : Plc × List Nat × List Nat) ρ S' => ∃ x3 x4, ρ = [some (.ref k), some (eP x.1), some (.ref S.length), x3, x4] ∧ S' = S ++ [.lst (x.2.2.map fun n => .int (n : Nat))] ∧ G.Pth sc st c x.1 x.2.1 ∧ x.2.1 ++ x.2.2.reverse = ns) (fun x => x.2.1.length) (p, ns, []) ⟨none, none, rfl, rfl, h, by simp⟩ ?_)
  rintro ⟨q0, ns', acc⟩ ρ S' ⟨x3, x4, rfl, rfl, hp, he⟩
  cases hp with
  | base e =>
    refine ⟨false, S ++ [.lst (acc.map fun n => .int (n : Nat))], ?_, fun _ => ?_, fun z => by cases z⟩
    · simp only [cB, cBin, cVar, cC, List.getElem?_cons_zero, List.getElem?_cons_succ, dGetD, lat, e, Option.map_some, eV, notND]
    · refine Ev.ret (d := eN ns) (S' := S ++ [.lst (acc.map fun n => .int (n : Nat))]) ?_ ⟨_, rfl⟩
      simp only [cApp, cCons, cNil, cUn, cVar, List.getElem?_cons_zero, List.getElem?_cons_succ, revD, asQ, asL, hg, tupleD, eN, ← he, List.nil_append, List.map_reverse]
  | @step q r n ns2 e hm hp =>
    refine ⟨true, S ++ [.lst (acc.map fun n => .int (n : Nat))], ?_, fun z => (by cases z), fun _ => ?_⟩
    · simp only [cB, cBin, cVar, cC, List.getElem?_cons_zero, List.getElem?_cons_succ, dGetD, lat, e, Option.map_some, eV, notND]
    · refine Ev.seq (Ev.set (d := .tup [eP q, .int n]) (S' := S ++ [.lst (acc.map fun n => .int (n : Nat))]) (ρ' := [some (.ref k), some (eP q0), some (.ref S.length), some (eP q), some (.int n)]) ?_ (by simp [gT, gsCons, gN, gsNil]) ?_)
      · simp only [cBin, cVar, List.getElem?_cons_zero, List.getElem?_cons_succ, dGetD, lat, e, Option.map_some, eV]
      · have hlt : (acc.map fun n => D.int (n : Nat)).length < sizeLine := by
          rw [List.length_map, sizeLine_eq]
          have := congrArg List.length he
          simp at this
          omega
        have e3 : (acc.map fun n => D.int (n : Nat)) ++ [D.int (n : Nat)] = (acc ++ [n]).map fun n => D.int (n : Nat) := by simp
        refine Ev.seq (Ev.expr (d := .non) (S' := S ++ [.lst ((acc ++ [n]).map fun n => .int (n : Nat))]) ?_ ?_)
        · simp only [cM, cVar, cCons, cNil, List.getElem?_cons_zero, List.getElem?_cons_succ, hg, apnd, hlt, if_true, e3, set_end]
        · refine Ev.setN (d := eP q) (S' := S ++ [.lst ((acc ++ [n]).map fun n => .int (n : Nat))]) rfl ⟨(q, ns2, acc ++ [n]), ?_, _, _, rfl, rfl, hp, ?_⟩
          · simp
          · rw [← he]
            simp

end K84

/-! k84: the search by an order. -/
namespace K84
open PySem PySem.Spec PyProof.Rows L2 DL BK

abbrev sto (S : Store) (c : Came) (Zs : Store) (f : List Plc) : Store := S ++ .dN false (eC c) :: (Zs ++ [.lst (f.map eP)])
section
variable {S Zs : Store} {c : Came} {f : List Plc}
theorem sto_c : (sto S c Zs f)[S.length]? = some (.dN false (eC c)) := by simp
theorem sto_f : (sto S c Zs f)[S.length + 1 + Zs.length]? = some (.lst (f.map eP)) := by
  rw [List.getElem?_append_right (by omega)]
  have : S.length + 1 + Zs.length - S.length = Zs.length + 1 := by omega
  rw [this]
  simp
theorem sto_sc (c' : Came) : (sto S c Zs f).set S.length (.dN false (eC c')) = sto S c' Zs f := by
  rw [List.set_append_right _ _ (by omega)]
  simp
theorem sto_sf (f' : List Plc) : (sto S c Zs f).set (S.length + 1 + Zs.length) (.lst (f'.map eP)) = sto S c Zs f' := by
  rw [List.set_append_right _ _ (by omega)]
  have : S.length + 1 + Zs.length - S.length = Zs.length + 1 := by omega
  rw [this]
  simp
theorem sto_look (p : Plc) : lookD (sto S c Zs f) (.ref S.length) (eP p) = some ((G.clook c p).map eV) := lookN sto_c
theorem sto_put {p : Plc} {v : Option (Plc × Nat)} (h : G.clook c p = none) (hz : c.length < 100000) : putD (sto S c Zs f) (.ref S.length) (eP p) (eV v) = some (sto S (c ++ [(p, v)]) Zs f) := by
  have hz' : (eC c).length < sizeLine := by rw [sizeLine_eq]; simp [eC]; omega
  unfold putD
  simp only [sto_c]
  rw [if_pos ⟨okTup_eP p, hz'⟩, dPut_eC h, sto_sc]
end
theorem cat_eN {ns ms : List Nat} {S : Store} (h : ns.length + ms.length ≤ 100000) : addD (eN ns) (eN ms) S = some (eN (ns ++ ms), S) := by
  have : (ns.map fun n => D.int (n : Nat)).length + (ms.map fun n => D.int (n : Nat)).length ≤ sizeLine := by rw [sizeLine_eq]; simp; omega
  unfold eN addD
  simp only
  rw [if_pos this, List.map_append]
theorem beaten_ok {b : Bk} (W : WB b) (h9 : ∀ s, (mvs b s).length ≤ 9) {o : List (List Nat)} (ho : ordOk b o) {st : Plc} (hst : PlW b st) {most : Nat} (hm : most ≤ 1000) (hF : Few b (.ord o) none st most) {S : Store} :
    ∃ r, f_beaten_within [eB b, .int st.1, eL st.2, eO o, .int most] S = some (eF r, S) ∧ Fnd b (.ord o) none st most r := by
  have hT := W.t2
  have z1 : (1 : Nat) ≤ sizeLine := by rw [sizeLine_eq]; omega
  have z2 : (2 : Nat) ≤ sizeLine := by rw [sizeLine_eq]; omega
  have hsz : szOk b none := fun y e => by cases e
  have hpo : polOk b (.ord o) := ho
  have hn9 : ∀ p, (numsQ b (.ord o) p).length ≤ 9 := fun p => by
    unfold numsQ numsG
    split
    · simp
    · split
      · simp
      · simpa using h9 p.1
  have key : Ev c_beaten_within ([eB b, .int st.1, eL st.2, eO o, .int most].map some ++ List.replicate (13 - 5) none) S (fun f => ∃ r T, f = .rt (eF r) (S ++ T) ∧ Fnd b (.ord o) none st most r) := by
    unfold c_beaten_within
    refine Ev.seq (Ev.setN (d := .ref S.length) (S' := S ++ [.dN false (eC [(st, none)])]) ?_ ?_)
    · have : okTup (.tup [.int st.1, eL st.2]) = true := okTup_eP st
      simp [cDisp, sSeq, sSet, sRet, sExpr, sIf, gN, gT, gsCons, gsNil, cVar, cC, cBin, cUn, cNil, cCons, cApp, cB, cTr, cAnd, cOr, cNot, cV, cAndV, cOrV, cNotV, cIf, nD, mkTup, mkLst, mkBox, asQ, asL, negD, addD, subD, cmpD, isND, notND, eqD, neD, eqS, lenD, tupleD, DL.intD, cM, apnd, popM, sPar, sPar3, sNext, sAug, ipD, z2, this, eC, eV, eP]
    refine Ev.seq (Ev.setN (d := .lst ([st].map eP)) (S' := S ++ [.dN false (eC [(st, none)])]) (by simp [sSeq, sSet, sRet, sExpr, sIf, gN, gT, gsCons, gsNil, cVar, cC, cBin, cUn, cNil, cCons, cApp, cB, cTr, cAnd, cOr, cNot, cV, cAndV, cOrV, cNotV, cIf, nD, mkTup, mkLst, mkBox, asQ, asL, negD, addD, subD, cmpD, isND, notND, eqD, neD, eqS, lenD, tupleD, DL.intD, cM, apnd, popM, sPar, sPar3, sNext, sAug, ipD, z1, z2, eP]) ?_)
    refine Ev.seq (Ev.for_ (S' := S ++ [.dN false (eC [(st, none)])]) (fun n : Nat => .int (n : Nat)) (fun ks ρ S' => ∃ (j : Nat) (Zs : Store) (x7 x8 x9 x10 x11 x12 : Option D), ks = List.range' j (most - j) ∧ j ≤ most ∧ quiet b (.ord o) none st j ∧ S' = S ++ .dN false (eC (runQ b (.ord o) none st j).1) :: Zs ∧
        ρ = [some (eB b), some (.int st.1), some (eL st.2), some (eO o), some (.int most), some (.ref S.length), some (.lst ((runQ b (.ord o) none st j).2.map eP)), x7, x8, x9, x10, x11, x12])
      (rng1 (n := most) (by simp [sSeq, sSet, sRet, sExpr, sIf, gN, gT, gsCons, gsNil, cVar, cC, cBin, cUn, cNil, cCons, cApp, cB, cTr, cAnd, cOr, cNot, cV, cAndV, cOrV, cNotV, cIf, nD, mkTup, mkLst, mkBox, asQ, asL, negD, addD, subD, cmpD, isND, notND, eqD, neD, eqS, lenD, tupleD, DL.intD, cM, apnd, popM, sPar, sPar3, sNext, sAug, ipD]) (by omega)) rfl ⟨0, [], none, none, none, none, none, none, by rw [List.range_eq_range']; simp, Nat.zero_le _, fun j hj => by omega, rfl, rfl⟩ ?_ ?_)
    · rintro k ks ρ S' ⟨j, Zs, x7, x8, x9, x10, x11, x12, hk, hj, hq, rfl, rfl⟩
      obtain ⟨rfl, hlt, rfl⟩ := rng_at hk hj
      refine ⟨_, rfl, ?_⟩
      have B := run_bi hq
      have hcl : (runQ b (.ord o) none st k).1.length ≤ 9000 := hF k hlt hq
      generalize hc0 : (runQ b (.ord o) none st k).1 = c0 at B hcl
      generalize hl0 : (runQ b (.ord o) none st k).2 = layer at B
      have hll : layer.length ≤ 9000 := by
        have := G.nodup_le layer (G.keys c0) B.ndl B.sub
        simp [G.keys] at this
        omega
      have hlw : ∀ p ∈ layer, PlW b p := fun p hp => by
        obtain ⟨ns, _, h⟩ := B.lay p hp
        exact R_w W hpo hsz hst h.w.r
      refine Ev.seq (Ev.setN (d := .ref (S.length + 1 + Zs.length)) (S' := sto S c0 Zs []) (by simp [sSeq, sSet, sRet, sExpr, sIf, gN, gT, gsCons, gsNil, cVar, cC, cBin, cUn, cNil, cCons, cApp, cB, cTr, cAnd, cOr, cNot, cV, cAndV, cOrV, cNotV, cIf, nD, mkTup, mkLst, mkBox, asQ, asL, negD, addD, subD, cmpD, isND, notND, eqD, neD, eqS, lenD, tupleD, DL.intD, cM, apnd, popM, sPar, sPar3, sNext, sAug, ipD]; omega) ?_)
      refine Ev.seq (Ev.for_ (S' := sto S c0 Zs []) eP (fun ps ρ S' => ∃ (dn : List Plc) (s2 : Came × List Plc) (x9 x10 x11 x12 : Option D), layer = dn ++ ps ∧ s2 = dn.foldl (fun s p => G.stpM (scQ b (.ord o) none) p s) (c0, []) ∧ (∀ p ∈ dn, exQ b (.ord o) p = false) ∧ S' = sto S s2.1 Zs s2.2 ∧ G.LI (scQ b (.ord o) none) c0 layer s2 ∧ s2.1.length ≤ 9000 + 9 * dn.length ∧ s2.2.length ≤ 9 * dn.length ∧
          ρ = [some (eB b), some (.int st.1), some (eL st.2), some (eO o), some (.int most), some (.ref S.length), some (.lst (layer.map eP)), some (.int k), some (.ref (S.length + 1 + Zs.length)), x9, x10, x11, x12])
        (xs := layer.map eP) (by simp [cItS, cVar, itSeq]) rfl ⟨[], (c0, []), _, _, _, _, rfl, rfl, by simp, rfl, ⟨⟨[], by simp, rfl⟩, B.nd, by simp⟩, by simpa using hcl, by simp, rfl⟩ ?_ ?_)
      · rintro p ps ρ S' ⟨dn, s2, x9, x10, x11, x12, hlay, hs2, hdn, rfl, hLI, hz1, hz2, rfl⟩
        have hpl : p ∈ layer := by rw [hlay]; simp
        have hpw := hlw p hpl
        have hdl : dn.length + 1 ≤ 9000 := by
          have := congrArg List.length hlay
          simp at this
          omega
        refine ⟨_, rfl, ?_⟩
        refine Ev.for_ (S' := sto S s2.1 Zs s2.2) (fun n : Nat => .int (n : Nat)) (fun ns ρ S' => ∃ (pre : List Nat) (s3 : Came × List Plc) (x10 x11 x12 : Option D), numsQ b (.ord o) p = pre ++ ns ∧ s3 = pre.foldl (fun s n => G.stp p (n, nx b none p n) s) s2 ∧ (∀ n ∈ pre, dry (aft b p n) = false) ∧ S' = sto S s3.1 Zs s3.2 ∧ G.LI (scQ b (.ord o) none) c0 layer s3 ∧ s3.1.length ≤ 9000 + 9 * dn.length + pre.length ∧ s3.2.length ≤ 9 * dn.length + pre.length ∧
            ρ = [some (eB b), some (.int st.1), some (eL st.2), some (eO o), some (.int most), some (.ref S.length), some (.lst (layer.map eP)), some (.int k), some (.ref (S.length + 1 + Zs.length)), some (eP p), x10, x11, x12])
          (xs := (numsQ b (.ord o) p).map fun n => .int (n : Nat)) (by simp [cItS, sSeq, sSet, sRet, sExpr, sIf, gN, gT, gsCons, gsNil, cVar, cC, cBin, cUn, cNil, cCons, cApp, cB, cTr, cAnd, cOr, cNot, cV, cAndV, cOrV, cNotV, cIf, nD, mkTup, mkLst, mkBox, asQ, asL, negD, addD, subD, cmpD, isND, notND, eqD, neD, eqS, lenD, tupleD, DL.intD, cM, apnd, popM, sPar, sPar3, sNext, sAug, ipD, numbersAt_ok W ho hpw, itSeq, numsQ, pkQ]) rfl ⟨[], s2, _, _, _, rfl, rfl, by simp, rfl, hLI, by simpa using hz1, by simpa using hz2, rfl⟩ ?_ ?_
        · rintro n ns ρ S' ⟨pre, s3, x10, x11, x12, hnum, hs3, hpre, rfl, hLI3, hz3, hz4, rfl⟩
          have hnn : n ∈ numsQ b (.ord o) p := by rw [hnum]; simp
          have hnl := numsG_lt (pkQ_ok hpo) hpw hnn
          have hal := aft_len W hpw hnl
          have hpl9 : pre.length + 1 ≤ 9 := by
            have := congrArg List.length hnum
            have := hn9 p
            simp at *
            omega
          refine ⟨_, rfl, ?_⟩
          refine Ev.seq (Ev.setN (d := eM (mvA b p.1 n)) (S' := sto S s3.1 Zs s3.2) (by simp [sSeq, sSet, sRet, sExpr, sIf, gN, gT, gsCons, gsNil, cVar, cC, cBin, cUn, cNil, cCons, cApp, cB, cTr, cAnd, cOr, cNot, cV, cAndV, cOrV, cNotV, cIf, nD, mkTup, mkLst, mkBox, asQ, asL, negD, addD, subD, cmpD, isND, notND, eqD, neD, eqS, lenD, tupleD, DL.intD, cM, apnd, popM, sPar, sPar3, sNext, sAug, ipD, ixP0, moves_ok hpw.s, ixMs (mvA_at hnl)]) ?_)
          refine Ev.seq (Ev.setN (d := eP (nx b none p n)) (S' := sto S s3.1 Zs s3.2) (by
            have hp1 := poured_ok (l := p.2) (p := (mvA b p.1 n).p) (S := sto S s3.1 Zs s3.2) (by rw [hpw.l]; omega)
            simp only [cApp, cCons, cNil, cBin, cVar, cC, List.getElem?_cons_zero, List.getElem?_cons_succ, List.set_cons_zero, List.set_cons_succ, gN, ixM1, ixM2, ixP1, nD, List.map_cons, List.map_nil, List.length_cons, List.length_nil, List.replicate, Nat.reduceSub, List.cons_append, List.nil_append, Nat.reduceAdd, Nat.zero_add, if_true, hp1, mkTup, z2]
            rfl) ?_)
          have hdry : cB (cApp (nD 1 f_is_dry) (cCons (cBin ixD (cVar 12) (cC (.int 1))) cNil)) [some (eB b), some (.int st.1), some (eL st.2), some (eO o), some (.int most), some (.ref S.length), some (.lst (layer.map eP)), some (.int k), some (.ref (S.length + 1 + Zs.length)), some (eP p), some (.int n), some (eM (mvA b p.1 n)), some (eP (nx b none p n))] (sto S s3.1 Zs s3.2) = some (dry (aft b p n), sto S s3.1 Zs s3.2) := by
            have := dry_ok (l := aft b p n) (S := sto S s3.1 Zs s3.2) (by omega)
            simp only [cB, cApp, cCons, cNil, cBin, cVar, cC, List.getElem?_cons_zero, List.getElem?_cons_succ, ixP1, nD, List.map_cons, List.map_nil, List.length_cons, List.length_nil, List.replicate, Nat.reduceSub, List.cons_append, List.nil_append, Nat.reduceAdd, Nat.zero_add, if_true, nx, spl, this]
          refine Ev.seq (Ev.ite (c := dry (aft b p n)) (S' := sto S s3.1 Zs s3.2) (by exact hdry) (fun hd => ?_) (fun hd => Ev.next ?_))
          · -- a way out
            obtain ⟨ns', hlen, hp'⟩ := B.lay p hpl
            obtain ⟨d, e1, e2⟩ := hLI3.app
            have hp2 : G.Pth (scQ b (.ord o) none) st s3.1 p ns' := by rw [e1]; exact hp'.app
            have hlb := ledback_ok (S := sto S s3.1 Zs s3.2) (k := S.length) sto_c hp2 (by omega)
            refine Ev.ret (d := eF (some (ns' ++ [n]))) (S' := sto S s3.1 Zs s3.2) ?_ ⟨some (ns' ++ [n]), _, rfl, ns', n, p, rfl, by omega, hp'.w, hnn, hd, fun j hj x hr => B.before (by omega) hr⟩
            have hcat := cat_eN (ns := ns') (ms := [n]) (S := sto S s3.1 Zs s3.2) (by simp; omega)
            simp only [cBin, cApp, cCons, cNil, cVar, List.getElem?_cons_zero, List.getElem?_cons_succ, List.set_cons_zero, List.set_cons_succ, gN, nD, List.map_cons, List.map_nil, List.length_cons, List.length_nil, List.replicate, Nat.reduceSub, List.cons_append, List.nil_append, Nat.reduceAdd, Nat.zero_add, if_true, hlb, mkTup, z1]
            exact hcat
          · have hsc := mem_sc (z := none) hnn hd
            have hLI4 := hLI3.stp hpl hsc
            have hlk : lookD (sto S s3.1 Zs s3.2) (.ref S.length) (eP (nx b none p n)) = some ((G.clook s3.1 (nx b none p n)).map eV) := sto_look _
            have hl4 := G.stp_len (p := p) (x := (n, nx b none p n)) (st := s3)
            have done : ∀ s4, G.stp p (n, nx b none p n) s3 = s4 → ∃ (pre' : List Nat) (s5 : Came × List Plc) (y10 y11 y12 : Option D), numsQ b (.ord o) p = pre' ++ ns ∧ s5 = pre'.foldl (fun s n => G.stp p (n, nx b none p n) s) s2 ∧ (∀ n ∈ pre', dry (aft b p n) = false) ∧ sto S s4.1 Zs s4.2 = sto S s5.1 Zs s5.2 ∧ G.LI (scQ b (.ord o) none) c0 layer s5 ∧ s5.1.length ≤ 9000 + 9 * dn.length + pre'.length ∧ s5.2.length ≤ 9 * dn.length + pre'.length ∧
                [some (eB b), some (.int st.1), some (eL st.2), some (eO o), some (.int most), some (.ref S.length), some (.lst (layer.map eP)), some (.int k), some (.ref (S.length + 1 + Zs.length)), some (eP p), some (.int n), some (eM (mvA b p.1 n)), some (eP (nx b none p n))] = [some (eB b), some (.int st.1), some (eL st.2), some (eO o), some (.int most), some (.ref S.length), some (.lst (layer.map eP)), some (.int k), some (.ref (S.length + 1 + Zs.length)), some (eP p), y10, y11, y12] := by
              rintro s4 rfl
              refine ⟨pre ++ [n], _, _, _, _, by rw [hnum]; simp, by rw [List.foldl_append, ← hs3]; rfl, fun m hm => ?_, rfl, hLI4, by simp; omega, by simp; omega, rfl⟩
              rcases List.mem_append.mp hm with hm | hm
              · exact hpre m hm
              · rw [List.mem_singleton.mp hm]; exact hd
            cases hcl3 : G.clook s3.1 (nx b none p n) with
            | some v =>
              rw [hcl3] at hlk
              refine Ev.ifF (S' := sto S s3.1 Zs s3.2) (by simp only [cB, cBin, cVar, List.getElem?_cons_zero, List.getElem?_cons_succ, List.set_cons_zero, List.set_cons_succ, gN, dNotInD, hlk, Option.map_some]; rfl) (Ev.next (done s3 (by unfold G.stp; rw [if_neg (by simp [hcl3])])))
            | none =>
              rw [hcl3] at hlk
              refine Ev.ifT (S' := sto S s3.1 Zs s3.2) (by simp only [cB, cBin, cVar, List.getElem?_cons_zero, List.getElem?_cons_succ, List.set_cons_zero, List.set_cons_succ, gN, dNotInD, hlk, Option.map_some]; rfl) ?_
              refine Ev.seq (Ev.dput (d := eV (some (p, n))) (x := .ref S.length) (y := eP (nx b none p n)) (S1 := sto S s3.1 Zs s3.2) (S4 := sto S (s3.1 ++ [(nx b none p n, some (p, n))]) Zs s3.2)
                (by simp only [cApp, cCons, cNil, cVar, List.getElem?_cons_zero, List.getElem?_cons_succ, List.set_cons_zero, List.set_cons_succ, gN, mkTup, List.map_cons, List.map_nil, List.length_cons, List.length_nil, List.replicate, Nat.reduceSub, List.cons_append, List.nil_append, Nat.reduceAdd, Nat.zero_add, z2, if_true]; rfl) rfl rfl (sto_put hcl3 (by omega)) ?_)
              refine Ev.apnd (k := S.length + 1 + Zs.length) (S1 := sto S (s3.1 ++ [(nx b none p n, some (p, n))]) Zs s3.2) (S2 := sto S (s3.1 ++ [(nx b none p n, some (p, n))]) Zs s3.2) (ds0 := s3.2.map eP) (ds := s3.2.map eP) (x := eP (nx b none p n)) rfl sto_f rfl sto_f (by simp; omega) ?_
              rw [show s3.2.map eP ++ [eP (nx b none p n)] = (s3.2 ++ [nx b none p n]).map eP by simp, sto_sf]
              exact done (s3.1 ++ [(nx b none p n, some (p, n))], s3.2 ++ [nx b none p n]) (by unfold G.stp; rw [if_pos (by simpa using hcl3)])
        · rintro ρ S' ⟨pre, s3, x10, x11, x12, hnum, hs3, hpre, rfl, hLI3, hz3, hz4, rfl⟩
          rw [List.append_nil] at hnum
          have hex : exQ b (.ord o) p = false := by
            unfold exQ
            rw [← Bool.not_eq_true, List.any_eq_true]
            rintro ⟨n, hn, hd⟩
            rw [hnum] at hn
            rw [hpre n hn] at hd
            cases hd
          have hp9 : pre.length ≤ 9 := by rw [← hnum]; exact hn9 p
          refine ⟨dn ++ [p], s3, _, _, _, _, by rw [hlay]; simp, ?_, fun x hx => ?_, rfl, hLI3, by simp; omega, by simp; omega, rfl⟩
          · rw [List.foldl_append, ← hs2, hs3, ← hnum]
            show _ = G.stpM _ p s2
            unfold G.stpM
            rw [sc_all hex, List.foldl_map]
          · rcases List.mem_append.mp hx with hx | hx
            · exact hdn x hx
            · rw [List.mem_singleton.mp hx]; exact hex
      · rintro ρ S' ⟨dn, s2, x9, x10, x11, x12, hlay, hs2, hdn, rfl, hLI, hz1, hz2, rfl⟩
        rw [List.append_nil] at hlay
        subst hlay
        have hrun : runQ b (.ord o) none st (k + 1) = s2 := by
          show G.layr _ (runQ b (.ord o) none st k).2 (runQ b (.ord o) none st k).1 = s2
          rw [hc0, hl0, hs2]
          rfl
        refine Ev.setN (d := .lst (s2.2.map eP)) (S' := S ++ .dN false (eC s2.1) :: (Zs ++ [.dead])) ?_ ⟨k + 1, Zs ++ [.dead], _, _, _, _, _, _, rfl, hlt, fun i hi => ?_, by rw [hrun], by rw [hrun]; rfl⟩
        · have hfz : cFrz (cVar 8) [some (eB b), some (.int st.1), some (eL st.2), some (eO o), some (.int most), some (.ref S.length), some (.lst (layer.map eP)), some (.int k), some (.ref (S.length + 1 + Zs.length)), x9, x10, x11, x12] (sto S s2.1 Zs s2.2) = some (.lst (s2.2.map eP), (sto S s2.1 Zs s2.2).set (S.length + 1 + Zs.length) .dead) := by
            simp only [cFrz, cVar, List.getElem?_cons_zero, List.getElem?_cons_succ, sto_f]
          rw [hfz]
          congr 2
          rw [List.set_append_right _ _ (by omega)]
          have : S.length + 1 + Zs.length - S.length = Zs.length + 1 := by omega
          rw [this]
          simp
        · by_cases hik : i < k
          · exact hq i hik
          · have : i = k := by omega
            subst this
            rw [hl0]
            exact hdn
    · rintro ρ S' ⟨j, Zs, x7, x8, x9, x10, x11, x12, hk, hj, hq, rfl, rfl⟩
      have hjm := rng_end hk hj
      subst hjm
      refine Ev.ret (d := eF none) (S' := S ++ .dN false (eC (runQ b (.ord o) none st j).1) :: Zs) rfl ⟨none, _, rfl, fun i hi p hr => (run_bi hq).before hi hr⟩
  obtain ⟨f, e, r, T, rfl, hfnd⟩ := key
  exact ⟨r, call_ev ⟨_, e, T, rfl⟩ (below_eF r), hfnd⟩
end K84

/-! k84: the law's own search. -/
namespace K84
open PySem PySem.Spec PyProof.Rows L2 DL BK

def LRes (b : Bk) (q : Pol) (z : Sz) (st : Plc) (most : Nat) (d : D) : Prop :=
  (d = .int (-1) ∧ ∃ k, k ≤ most ∧ quiet b q z st k ∧ 900 < (runQ b q z st k).1.length) ∨
  (d = .non ∧ (∀ j, j < most → ∀ p, G.R (scQ b q z) st j p → exQ b q p = false) ∧ Few b q z st most ∧ (∃ k, k ≤ most ∧ quiet b q z st k ∧ ((runQ b q z st k).2 = [] ∨ k = most))) ∨
  (∃ k, d = .int ((k + 1 : Nat) : Int) ∧ k < most ∧ (∃ p, G.R (scQ b q z) st k p ∧ exQ b q p = true) ∧ (∀ j, j < k → ∀ p, G.R (scQ b q z) st j p → exQ b q p = false) ∧ Few b q z st most)
/-- so far all rounds were small -/
def Sm (b : Bk) (q : Pol) (z : Sz) (st : Plc) (k : Nat) : Prop := ∀ j, j ≤ k → (runQ b q z st j).1.length ≤ 900
theorem run_nil {b : Bk} {q : Pol} {z : Sz} {st : Plc} {k : Nat} (h : (runQ b q z st k).2 = []) : ∀ i, runQ b q z st (k + i) = runQ b q z st k
  | 0 => rfl
  | i + 1 => by
    show G.layr _ (runQ b q z st (k + i)).2 (runQ b q z st (k + i)).1 = _
    rw [run_nil h i, h]
    have : G.layr (scQ b q z) [] (runQ b q z st k).1 = ((runQ b q z st k).1, []) := rfl
    rw [this, ← h]
theorem eK_len (ps : List Plc) : (eK ps).length = ps.length := by simp [eK]
theorem keys_len (c : Came) : (G.keys c).length = c.length := by simp [G.keys]
theorem putK' {S : Store} {k : Nat} {ps : List Plc} {p : Plc} (h : S[k]? = some (.dN false (eK ps))) (hn : p ∉ ps) (hz : ps.length < 100000) : putD S (.ref k) (eP p) (.bl true) = some (S.set k (.dN false (eK (ps ++ [p])))) := by
  have hz' : (eK ps).length < sizeLine := by rw [sizeLine_eq, eK_len]; omega
  unfold putD
  simp only [h]
  rw [if_pos ⟨okTup_eP p, hz'⟩, dPut_eK hn]
theorem len3K {S : Store} {k : Nat} {ps : List Plc} {lk : Bool} (h : S[k]? = some (.dN lk (eK ps))) : len3D [.ref k] S = some (.int ps.length, S) := by
  simp only [len3D, h, eK_len]
theorem lfewest_ok {b : Bk} (W : WB b) (h9 : ∀ s, (mvs b s).length ≤ 9) {q : Pol} (ho : polOk b q) {z : Sz} (hsz : szOk b z) {st : Plc} (hst : PlW b st) {most : Nat} (hm : most ≤ 1000) {S : Store} :
    ∃ d, f__law_fewest [eB b, .int st.1, eL st.2, eQ q, .int most, eZ z] S = some (d, S) ∧ LRes b q z st most d := by
  have hT := W.t2
  have z2 : (2 : Nat) ≤ sizeLine := by rw [sizeLine_eq]; omega
  have hn9 : ∀ p, (numsQ b q p).length ≤ 9 := fun p => by
    unfold numsQ numsG
    split
    · simp
    · split
      · simp
      · simpa using h9 p.1
  have hok : okTup (.tup [.int st.1, eL st.2]) = true := okTup_eP st
  have key : Ev c__law_fewest ([eB b, .int st.1, eL st.2, eQ q, .int most, eZ z].map some ++ List.replicate (14 - 6) none) S (fun f => ∃ d T, f = .rt d (S ++ T) ∧ LRes b q z st most d) := by
    unfold c__law_fewest
    refine Ev.seq (Ev.setN (d := .ref S.length) (S' := S ++ [.dN false (eK [st])]) (by simp [cDisp, sSeq, sSet, sRet, sExpr, sIf, gN, gT, gsCons, gsNil, cVar, cC, cBin, cUn, cNil, cCons, cApp, cB, cTr, cAnd, cOr, cNot, cV, cAndV, cOrV, cNotV, cIf, nD, mkTup, mkLst, mkBox, asQ, asL, negD, addD, subD, cmpD, isND, notND, eqD, neD, eqS, lenD, tupleD, DL.intD, cM, apnd, popM, sPar, sPar3, sNext, sAug, ipD, z2, hok, eK, eP]) ?_)
    refine Ev.seq (Ev.setN (d := .ref (S.length + 1)) (S' := S ++ [.dN false (eK [st]), .dN false (eK [st])]) (by simp [cDisp, sSeq, sSet, sRet, sExpr, sIf, gN, gT, gsCons, gsNil, cVar, cC, cBin, cUn, cNil, cCons, cApp, cB, cTr, cAnd, cOr, cNot, cV, cAndV, cOrV, cNotV, cIf, nD, mkTup, mkLst, mkBox, asQ, asL, negD, addD, subD, cmpD, isND, notND, eqD, neD, eqS, lenD, tupleD, DL.intD, cM, apnd, popM, sPar, sPar3, sNext, sAug, ipD, z2, hok, eK, eP]) ?_)
    refine Ev.seq (Ev.for_ (S' := S ++ [.dN false (eK [st]), .dN false (eK [st])]) (fun i : Nat => .int ((1 + i : Nat) : Int)) (fun ks ρ S' => ∃ (j Li : Nat) (X0 : Cell) (Zs : Store) (x8 x9 x10 x11 x12 x13 : Option D), ks = List.range' j (most - j) ∧ j ≤ most ∧ quiet b q z st j ∧ Sm b q z st j ∧ S' = (S ++ [X0]) ++ .dN false (eK (G.keys (runQ b q z st j).1)) :: Zs ∧ S'[Li]? = some (.dN false (eK (runQ b q z st j).2)) ∧ Li ≠ (S ++ [X0]).length ∧ Li < (S ++ [X0]).length + 1 + Zs.length ∧
        ρ = [some (eB b), some (.int st.1), some (eL st.2), some (eQ q), some (.int most), some (eZ z), some (.ref Li), some (.ref (S.length + 1)), x8, x9, x10, x11, x12, x13])
      (by
        have := rng2 (c := cC (.int 1)) (d := cBin addD (cVar 4) (cC (.int 1))) (ρ := [some (eB b), some (.int st.1), some (eL st.2), some (eQ q), some (.int most), some (eZ z), some (.ref S.length), some (.ref (S.length + 1)), none, none, none, none, none, none]) (S := S ++ [.dN false (eK [st]), .dN false (eK [st])]) (a := 1) (n := most + 1) rfl (by simp [sSeq, sSet, sRet, sExpr, sIf, gN, gT, gsCons, gsNil, cVar, cC, cBin, cUn, cNil, cCons, cApp, cB, cTr, cAnd, cOr, cNot, cV, cAndV, cOrV, cNotV, cIf, nD, mkTup, mkLst, mkBox, asQ, asL, negD, addD, subD, cmpD, isND, notND, eqD, neD, eqS, lenD, tupleD, DL.intD, cM, apnd, popM, sPar, sPar3, sNext, sAug, ipD]; rfl) (by omega) (by omega)
        exact this) rfl ⟨0, S.length, .dN false (eK [st]), [], none, none, none, none, none, none, by rw [List.range_eq_range']; simp, Nat.zero_le _, fun j hj => by omega, fun j hj => ?_, by simp [runQ, G.keys], by simp [runQ], by simp, by simp, rfl⟩ ?_ ?_)
    · have : j = 0 := by omega
      subst this
      simp [runQ]
    · rintro k ks ρ S' ⟨j, Li, X0, Zs, x8, x9, x10, x11, x12, x13, hk, hj, hq, hsm, rfl, hLi, hL1, hL2, rfl⟩
      obtain ⟨rfl, hlt, rfl⟩ := rng_at hk hj
      refine ⟨_, rfl, ?_⟩
      have B := run_bi hq
      have hcl : (runQ b q z st k).1.length ≤ 900 := hsm k (Nat.le_refl _)
      have hrun : G.layr (scQ b q z) (runQ b q z st k).2 (runQ b q z st k).1 = runQ b q z st (k + 1) := rfl
      generalize hc0 : (runQ b q z st k).1 = c0 at B hcl hLi hrun
      generalize hl0 : (runQ b q z st k).2 = layer at B hLi hrun
      have hll : layer.length ≤ 900 := by
        have := G.nodup_le layer (G.keys c0) B.ndl B.sub
        rw [keys_len] at this
        omega
      have hlw : ∀ p ∈ layer, PlW b p := fun p hp => by
        obtain ⟨ns, _, h⟩ := B.lay p hp
        exact R_w W ho hsz hst h.w.r
      generalize hA : S ++ [X0] = A at hLi hL1 hL2
      have hAl : A.length = S.length + 1 := by rw [← hA]; simp
      -- more
      refine Ev.seq (Ev.setN (d := .ref (A.length + 1 + Zs.length)) (S' := A ++ .dN false (eK (G.keys c0)) :: (Zs ++ [.dN false (eK [])])) (by simp [cDNew, eK]; omega) ?_)
      have hLi2 : (A ++ .dN false (eK (G.keys c0)) :: (Zs ++ [.dN false (eK [])]))[Li]? = some (.dN false (eK layer)) := by
        have e : A ++ .dN false (eK (G.keys c0)) :: (Zs ++ [.dN false (eK [])]) = (A ++ .dN false (eK (G.keys c0)) :: Zs) ++ [.dN false (eK [])] := by simp
        rw [e, List.getElem?_append_left (by simp; omega)]
        exact hLi
      obtain ⟨A', Z', hA', hZ', hsp⟩ := lock_split (y := .dN true (eK layer)) hLi2 hL1 hL2
      have kn_at : ∀ (c : Came) (f : List Plc), (A' ++ Cell.dN false (eK (G.keys c)) :: (Z' ++ [Cell.dN false (eK f)]))[S.length + 1]? = some (.dN false (eK (G.keys c))) := fun c f => by
        rw [List.getElem?_append_right (by omega)]
        have : S.length + 1 - A'.length = 0 := by omega
        rw [this]; rfl
      have mo_at : ∀ (c : Came) (f : List Plc), (A' ++ Cell.dN false (eK (G.keys c)) :: (Z' ++ [Cell.dN false (eK f)]))[A.length + 1 + Zs.length]? = some (.dN false (eK f)) := fun c f => by
        rw [List.getElem?_append_right (by omega)]
        have : A.length + 1 + Zs.length - A'.length = Z'.length + 1 := by omega
        rw [this]; simp
      have kn_set : ∀ (c : Came) (f : List Plc) (x : Cell), (A' ++ Cell.dN false (eK (G.keys c)) :: (Z' ++ [Cell.dN false (eK f)])).set (S.length + 1) x = A' ++ x :: (Z' ++ [Cell.dN false (eK f)]) := fun c f x => by
        rw [List.set_append_right _ _ (by omega)]
        have : S.length + 1 - A'.length = 0 := by omega
        rw [this]; rfl
      have mo_set : ∀ (c : Came) (f : List Plc) (x : Cell), (A' ++ Cell.dN false (eK (G.keys c)) :: (Z' ++ [Cell.dN false (eK f)])).set (A.length + 1 + Zs.length) x = A' ++ .dN false (eK (G.keys c)) :: (Z' ++ [x]) := fun c f x => by
        rw [List.set_append_right _ _ (by omega)]
        have : A.length + 1 + Zs.length - A'.length = Z'.length + 1 := by omega
        rw [this]; simp
      refine Ev.seq (Ev.unK (k := Li) (kvs := eK layer) rfl hLi2 ?_)
      refine Ev.for_ (S' := A' ++ .dN false (eK (G.keys c0)) :: (Z' ++ [.dN false (eK [])])) eP (fun ps ρ S' => ∃ (dn : List Plc) (s2 : Came × List Plc) (x10 x11 x12 x13 : Option D), layer = dn ++ ps ∧ s2 = dn.foldl (fun s p => G.stpM (scQ b q z) p s) (c0, []) ∧ (∀ p ∈ dn, exQ b q p = false) ∧ S' = A' ++ .dN false (eK (G.keys s2.1)) :: (Z' ++ [.dN false (eK s2.2)]) ∧ G.LI (scQ b q z) c0 layer s2 ∧ s2.1.length ≤ 900 + 9 * dn.length ∧
          ρ = [some (eB b), some (.int st.1), some (eL st.2), some (eQ q), some (.int most), some (eZ z), some (.ref Li), some (.ref (S.length + 1)), some (.int ((1 + k : Nat) : Int)), some (.ref (A.length + 1 + Zs.length)), x10, x11, x12, x13])
        (xs := layer.map eP) (by
          have := itK (c := cVar 6) (ρ := [some (eB b), some (.int st.1), some (eL st.2), some (eQ q), some (.int most), some (eZ z), some (.ref Li), some (.ref (S.length + 1)), some (.int ((1 + k : Nat) : Int)), some (.ref (A.length + 1 + Zs.length)), x10, x11, x12, x13]) rfl hLi2
          rw [(hsp _ _).1] at this
          have e : (eK layer).map (·.1) = layer.map eP := by simp [eK]
          rw [e] at this
          exact this) rfl ⟨[], (c0, []), _, _, _, _, rfl, rfl, by simp, rfl, ⟨⟨[], by simp, rfl⟩, B.nd, by simp⟩, by simpa using hcl, rfl⟩ ?_ ?_
      · rintro p ps ρ S' ⟨dn, s2, x10, x11, x12, x13, hlay, hs2, hdn, rfl, hLI, hz1, rfl⟩
        have hpl : p ∈ layer := by rw [hlay]; simp
        have hpw := hlw p hpl
        have hdl : dn.length + 1 ≤ 900 := by
          have := congrArg List.length hlay
          simp at this
          omega
        refine ⟨_, rfl, ?_⟩
        refine Ev.for_ (S' := A' ++ .dN false (eK (G.keys s2.1)) :: (Z' ++ [.dN false (eK s2.2)])) (fun n : Nat => .int (n : Nat)) (fun ns ρ S' => ∃ (pre : List Nat) (s3 : Came × List Plc) (x11 x12 x13 : Option D), numsQ b q p = pre ++ ns ∧ s3 = pre.foldl (fun s n => G.stp p (n, nx b z p n) s) s2 ∧ (∀ n ∈ pre, dry (aft b p n) = false) ∧ S' = A' ++ .dN false (eK (G.keys s3.1)) :: (Z' ++ [.dN false (eK s3.2)]) ∧ G.LI (scQ b q z) c0 layer s3 ∧ s3.1.length ≤ 900 + 9 * dn.length + pre.length ∧
            ρ = [some (eB b), some (.int st.1), some (eL st.2), some (eQ q), some (.int most), some (eZ z), some (.ref Li), some (.ref (S.length + 1)), some (.int ((1 + k : Nat) : Int)), some (.ref (A.length + 1 + Zs.length)), some (eP p), x11, x12, x13])
          (xs := (numsQ b q p).map fun n => .int (n : Nat)) (by simp [cItS, sSeq, sSet, sRet, sExpr, sIf, gN, gT, gsCons, gsNil, cVar, cC, cBin, cUn, cNil, cCons, cApp, cB, cTr, cAnd, cOr, cNot, cV, cAndV, cOrV, cNotV, cIf, nD, mkTup, mkLst, mkBox, asQ, asL, negD, addD, subD, cmpD, isND, notND, eqD, neD, eqS, lenD, tupleD, DL.intD, cM, apnd, popM, sPar, sPar3, sNext, sAug, ipD, lturns_ok W ho hpw, itSeq]) rfl ⟨[], s2, _, _, _, rfl, rfl, by simp, rfl, hLI, by simpa using hz1, rfl⟩ ?_ ?_
        · rintro n ns ρ S' ⟨pre, s3, x11, x12, x13, hnum, hs3, hpre, rfl, hLI3, hz3, rfl⟩
          have hnn : n ∈ numsQ b q p := by rw [hnum]; simp
          have hnl := numsG_lt (pkQ_ok ho) hpw hnn
          have hal := aft_len W hpw hnl
          have hpl9 : pre.length + 1 ≤ 9 := by
            have := congrArg List.length hnum
            have := hn9 p
            simp at *
            omega
          obtain ⟨x, hx, hmx, _⟩ := ixSt hpw.s
          have hmp : (mvA b p.1 n).p.length = p.2.length := by rw [mvA_p W hnl, hpw.l]
          have hzl := hsz.l (l := aft b p n) hal
          generalize hSS : A' ++ .dN false (eK (G.keys s3.1)) :: (Z' ++ [.dN false (eK s3.2)]) = SS
          have hkn : SS[S.length + 1]? = some (.dN false (eK (G.keys s3.1))) := by rw [← hSS]; exact kn_at _ _
          refine ⟨_, rfl, ?_⟩
          refine Ev.seq (Ev.setN (d := eM (mvA b p.1 n)) (S' := SS) (by
            have hm' : x.2[n]? = some (mvA b p.1 n) := by rw [← hmx]; exact mvA_at hnl
            simp [sSeq, sSet, sRet, sExpr, sIf, gN, gT, gsCons, gsNil, cVar, cC, cBin, cUn, cNil, cCons, cApp, cB, cTr, cAnd, cOr, cNot, cV, cAndV, cOrV, cNotV, cIf, nD, mkTup, mkLst, mkBox, asQ, asL, negD, addD, subD, cmpD, isND, notND, eqD, neD, eqS, lenD, tupleD, DL.intD, cM, apnd, popM, sPar, sPar3, sNext, sAug, ipD, ixB1, ixP0, hx, ixS1, ixMs hm']) ?_)
          refine Ev.seq (Ev.setN (d := eL (spl z (aft b p n))) (S' := SS) (by
            have h1 := lpour_ok (l := p.2) (m := mvA b p.1 n) (S := SS) (by rw [hpw.l]; omega) hmp
            have h2 := lspilt_ok (z := z) (l := aft b p n) hzl (by omega) (S := SS)
            unfold aft at h2
            simp only [cApp, cCons, cNil, cBin, cVar, cC, List.getElem?_cons_zero, List.getElem?_cons_succ, List.set_cons_zero, List.set_cons_succ, gN, ixP1, nD, List.map_cons, List.map_nil, List.length_cons, List.length_nil, List.replicate, Nat.reduceSub, List.cons_append, List.nil_append, Nat.reduceAdd, Nat.zero_add, if_true, h1, h2]
            rfl) ?_)
          have hdl' : dry (spl z (aft b p n)) = dry (aft b p n) := spl_dry fun y e => ⟨hzl y e, (hsz y e).2⟩
          have hne : spl z (aft b p n) ≠ [] := by
            intro h0
            have h1 := spl_len hzl
            rw [h0] at h1
            have := W.t1
            simp at h1
            omega
          have hmin : decide (minL (spl z (aft b p n)) < 0) = dry (aft b p n) := by
            have := minL_dry hne
            rw [hdl'] at this
            cases hd : dry (aft b p n) with
            | true => rw [hd] at this; simp at this; simp; omega
            | false => rw [hd] at this; simp at this; simp; omega
          refine Ev.seq (Ev.ite (c := dry (aft b p n)) (S' := SS) (by
            simp only [cB, cBin, cApp, cCons, cNil, cVar, cC, List.getElem?_cons_zero, List.getElem?_cons_succ, List.set_cons_zero, List.set_cons_succ, gN, min_eL hne, cmpD, hmin]) (fun hd => ?_) (fun hd => Ev.next ?_))
          · -- a way out
            refine Ev.ret (d := .int ((1 + k : Nat) : Int)) (S' := SS) rfl ⟨_, unF_rt (kvs := eK layer) (by rw [← hSS]; exact (hsp _ _).2.2), _, .dN false (eK (G.keys s3.1)) :: (Zs ++ [.dN false (eK s3.2)]) |> (X0 :: ·), ?_, .inr (.inr ⟨k, by rw [Nat.add_comm], hlt, ⟨p, ?_, ?_⟩, fun j hj p hr => B.before hj hr, ?_⟩)⟩
            · rw [← hSS, (hsp _ _).2.1, ← hA]
              simp
            · obtain ⟨ns', hlen, hp'⟩ := B.lay p hpl
              rw [← hlen]
              exact hp'.w.r
            · unfold exQ
              rw [List.any_eq_true]
              exact ⟨n, hnn, hd⟩
            · intro i hi hqi
              by_cases hik : i ≤ k
              · have := hsm i hik
                omega
              · have := hqi k (by omega) p (by rw [hl0]; exact hpl)
                unfold exQ at this
                rw [← Bool.not_eq_true, List.any_eq_true] at this
                exact absurd ⟨n, hnn, hd⟩ this
          · have hsc := mem_sc (z := z) hnn hd
            have hLI4 := hLI3.stp hpl hsc
            have hlk : lookD SS (.ref (S.length + 1)) (eP (nx b z p n)) = some (if nx b z p n ∈ G.keys s3.1 then some (.bl true) else none) := lookKK hkn
            have hl4 := G.stp_len (p := p) (x := (n, nx b z p n)) (st := s3)
            have done : ∀ s4, G.stp p (n, nx b z p n) s3 = s4 → ∃ (pre' : List Nat) (s5 : Came × List Plc) (y11 y12 y13 : Option D), numsQ b q p = pre' ++ ns ∧ s5 = pre'.foldl (fun s n => G.stp p (n, nx b z p n) s) s2 ∧ (∀ n ∈ pre', dry (aft b p n) = false) ∧ A' ++ .dN false (eK (G.keys s4.1)) :: (Z' ++ [.dN false (eK s4.2)]) = A' ++ .dN false (eK (G.keys s5.1)) :: (Z' ++ [.dN false (eK s5.2)]) ∧ G.LI (scQ b q z) c0 layer s5 ∧ s5.1.length ≤ 900 + 9 * dn.length + pre'.length ∧
                [some (eB b), some (.int st.1), some (eL st.2), some (eQ q), some (.int most), some (eZ z), some (.ref Li), some (.ref (S.length + 1)), some (.int ((1 + k : Nat) : Int)), some (.ref (A.length + 1 + Zs.length)), some (eP p), some (.int n), some (eM (mvA b p.1 n)), some (eL (spl z (aft b p n)))] = [some (eB b), some (.int st.1), some (eL st.2), some (eQ q), some (.int most), some (eZ z), some (.ref Li), some (.ref (S.length + 1)), some (.int ((1 + k : Nat) : Int)), some (.ref (A.length + 1 + Zs.length)), some (eP p), y11, y12, y13] := by
              rintro s4 rfl
              refine ⟨pre ++ [n], _, _, _, _, by rw [hnum]; simp, by rw [List.foldl_append, ← hs3]; rfl, fun m hm => ?_, rfl, hLI4, by simp; omega, rfl⟩
              rcases List.mem_append.mp hm with hm | hm
              · exact hpre m hm
              · rw [List.mem_singleton.mp hm]; exact hd
            have hkey : ∀ S0 : Store, cApp mkTup (cCons (cBin ixD (cVar 12) (cC (.int 2))) (cCons (cVar 13) cNil)) [some (eB b), some (.int st.1), some (eL st.2), some (eQ q), some (.int most), some (eZ z), some (.ref Li), some (.ref (S.length + 1)), some (.int ((1 + k : Nat) : Int)), some (.ref (A.length + 1 + Zs.length)), some (eP p), some (.int n), some (eM (mvA b p.1 n)), some (eL (spl z (aft b p n)))] S0 = some (eP (nx b z p n), S0) := fun S0 => by
              simp only [cApp, cCons, cNil, cBin, cVar, cC, List.getElem?_cons_zero, List.getElem?_cons_succ, ixM2, mkTup, List.map_cons, List.map_nil, List.length_cons, List.length_nil, List.replicate, Nat.reduceSub, List.cons_append, List.nil_append, Nat.reduceAdd, Nat.zero_add, z2, if_true]
              rfl
            by_cases hin : nx b z p n ∈ G.keys s3.1
            · rw [if_pos hin] at hlk
              refine Ev.ifF (S' := SS) ?_ (Ev.next ?_)
              · show cB (cBin dNotInD _ (cVar 7)) [some (eB b), some (.int st.1), some (eL st.2), some (eQ q), some (.int most), some (eZ z), some (.ref Li), some (.ref (S.length + 1)), some (.int ((1 + k : Nat) : Int)), some (.ref (A.length + 1 + Zs.length)), some (eP p), some (.int n), some (eM (mvA b p.1 n)), some (eL (spl z (aft b p n)))] SS = _
                exact cB_of (cBin_of (hkey _) rfl (by simp only [dNotInD, hlk, Option.map_some]; rfl))
              · rw [← hSS]
                exact done s3 (by
                  unfold G.stp
                  rw [if_neg]
                  intro hz
                  exact G.clook_none.mp hz hin)
            · rw [if_neg hin] at hlk
              have hcl3 : G.clook s3.1 (nx b z p n) = none := G.clook_none.mpr hin
              refine Ev.ifT (S' := SS) ?_ ?_
              · show cB (cBin dNotInD _ (cVar 7)) [some (eB b), some (.int st.1), some (eL st.2), some (eQ q), some (.int most), some (eZ z), some (.ref Li), some (.ref (S.length + 1)), some (.int ((1 + k : Nat) : Int)), some (.ref (A.length + 1 + Zs.length)), some (eP p), some (.int n), some (eM (mvA b p.1 n)), some (eL (spl z (aft b p n)))] SS = _
                exact cB_of (cBin_of (hkey _) rfl (by simp only [dNotInD, hlk, Option.map_some]; rfl))
              · have hfk : ∀ y ∈ s3.2, y ∈ G.keys s3.1 := fun y hy => by
                  obtain ⟨d, e1, e2⟩ := hLI3.app
                  rw [e1, G.keys_app, e2]
                  exact List.mem_append_right _ hy
                have hfl : s3.2.length ≤ s3.1.length := by
                  obtain ⟨d, e1, e2⟩ := hLI3.app
                  rw [e1, ← e2, keys_len]
                  simp
                have e1 : G.keys s3.1 ++ [nx b z p n] = G.keys (s3.1 ++ [(nx b z p n, some (p, n))]) := by rw [G.keys_app]; rfl
                refine Ev.seq (Ev.dput (d := .bl true) (x := .ref (S.length + 1)) (y := eP (nx b z p n)) (S1 := SS) (S4 := A' ++ .dN false (eK (G.keys (s3.1 ++ [(nx b z p n, some (p, n))]))) :: (Z' ++ [.dN false (eK s3.2)])) rfl rfl (by exact hkey _) ?_ ?_)
                · rw [putK' hkn hin (by rw [keys_len]; omega), ← hSS, kn_set, e1]
                · refine Ev.dput (d := .bl true) (x := .ref (A.length + 1 + Zs.length)) (y := eP (nx b z p n)) (S1 := A' ++ .dN false (eK (G.keys (s3.1 ++ [(nx b z p n, some (p, n))]))) :: (Z' ++ [.dN false (eK s3.2)])) (S4 := A' ++ .dN false (eK (G.keys (s3.1 ++ [(nx b z p n, some (p, n))]))) :: (Z' ++ [.dN false (eK (s3.2 ++ [nx b z p n]))])) rfl rfl (by exact hkey _) ?_ ?_
                  · rw [putK' (mo_at _ _) (fun hz => hin (hfk _ hz)) (by omega), mo_set]
                  · exact done (s3.1 ++ [(nx b z p n, some (p, n))], s3.2 ++ [nx b z p n]) (by unfold G.stp; rw [if_pos (by simpa using hcl3)])
        · rintro ρ S' ⟨pre, s3, x11, x12, x13, hnum, hs3, hpre, rfl, hLI3, hz3, rfl⟩
          rw [List.append_nil] at hnum
          have hex : exQ b q p = false := by
            unfold exQ
            rw [← Bool.not_eq_true, List.any_eq_true]
            rintro ⟨n, hn, hd⟩
            rw [hnum] at hn
            rw [hpre n hn] at hd
            cases hd
          have hp9 : pre.length ≤ 9 := by rw [← hnum]; exact hn9 p
          refine ⟨dn ++ [p], s3, _, _, _, _, by rw [hlay]; simp, ?_, fun x hx => ?_, rfl, hLI3, by simp; omega, rfl⟩
          · rw [List.foldl_append, ← hs2, hs3, ← hnum]
            show _ = G.stpM _ p s2
            unfold G.stpM
            rw [sc_all hex, List.foldl_map]
          · rcases List.mem_append.mp hx with hx | hx
            · exact hdn x hx
            · rw [List.mem_singleton.mp hx]; exact hex
      · rintro ρ S' ⟨dn, s2, x10, x11, x12, x13, hlay, hs2, hdn, rfl, hLI, hz1, rfl⟩
        rw [List.append_nil] at hlay
        subst hlay
        have hrun' : runQ b q z st (k + 1) = s2 := by
          rw [← hrun, hs2]
          rfl
        have hq' : quiet b q z st (k + 1) := fun i hi => by
          by_cases hik : i < k
          · exact hq i hik
          · have : i = k := by omega
            subst this
            rw [hl0]
            exact hdn
        refine ⟨_, unF_nx (kvs := eK layer) (hsp _ _).2.2, ?_⟩
        rw [(hsp _ _).2.1]
        show Ev _ _ _ _
        have hmoA : (A ++ .dN false (eK (G.keys s2.1)) :: (Zs ++ [.dN false (eK s2.2)]))[A.length + 1 + Zs.length]? = some (.dN false (eK s2.2)) := by
          rw [List.getElem?_append_right (by omega)]
          have : A.length + 1 + Zs.length - A.length = Zs.length + 1 := by omega
          rw [this]; simp
        have hknA : (A ++ .dN false (eK (G.keys s2.1)) :: (Zs ++ [.dN false (eK s2.2)]))[S.length + 1]? = some (.dN false (eK (G.keys s2.1))) := by
          rw [List.getElem?_append_right (by omega)]
          have : S.length + 1 - A.length = 0 := by omega
          rw [this]; rfl
        have few : (runQ b q z st (k + 1)).1.length ≤ 900 → Sm b q z st (k + 1) := fun h i hi => by
          by_cases hik : i ≤ k
          · exact hsm i hik
          · have : i = k + 1 := by omega
            subst this
            exact h
        generalize hSS : A ++ .dN false (eK (G.keys s2.1)) :: (Zs ++ [.dN false (eK s2.2)]) = SS at hmoA hknA
        refine Ev.seq (Ev.setN (d := .ref (A.length + 1 + Zs.length)) (S' := SS) rfl ?_)
        refine Ev.seq (Ev.ite (c := decide (900 < s2.1.length)) (S' := SS) (by
          simp only [cB, cBin, cApp, cCons, cNil, cVar, cC, List.getElem?_cons_zero, List.getElem?_cons_succ, List.set_cons_zero, List.set_cons_succ, gN, len3K hknA, keys_len, cmpD]
          congr 2
          simp only [decide_eq_decide]
          omega) (fun h => ?_) (fun h => Ev.next ?_))
        · refine Ev.ret (d := .int (-1)) (S' := SS) (by simp [sSeq, sSet, sRet, sExpr, sIf, gN, gT, gsCons, gsNil, cVar, cC, cBin, cUn, cNil, cCons, cApp, cB, cTr, cAnd, cOr, cNot, cV, cAndV, cOrV, cNotV, cIf, nD, mkTup, mkLst, mkBox, asQ, asL, negD, addD, subD, cmpD, isND, notND, eqD, neD, eqS, lenD, tupleD, DL.intD, cM, apnd, popM, sPar, sPar3, sNext, sAug, ipD]) ⟨_, X0 :: .dN false (eK (G.keys s2.1)) :: (Zs ++ [.dN false (eK s2.2)]), by rw [← hSS, ← hA]; simp, .inl ⟨rfl, k + 1, hlt, hq', by rw [hrun']; exact of_decide_eq_true h⟩⟩
        · have hsz' : s2.1.length ≤ 900 := by have := of_decide_eq_false h; omega
          have hSm := few (by rw [hrun']; exact hsz')
          refine Ev.ite (c := decide (s2.2 = [])) (S' := SS) (by
            simp only [cB, cBin, cApp, cCons, cNil, cVar, cC, List.getElem?_cons_zero, List.getElem?_cons_succ, List.set_cons_zero, List.set_cons_succ, gN, len3K hmoA, eqD, eqS, Option.map_some]
            congr 2
            simp [decide_eq_decide]) (fun h => ?_) (fun h => Ev.next ?_)
          · -- nothing is left
            have hnil : s2.2 = [] := of_decide_eq_true h
            refine Ev.brk ?_
            show Ev _ _ _ _
            have hnil' : (runQ b q z st (k + 1)).2 = [] := by rw [hrun']; exact hnil
            have B' := run_bi hq'
            rw [hnil'] at B'
            refine Ev.ret (d := .non) (S' := SS) rfl ⟨_, X0 :: .dN false (eK (G.keys s2.1)) :: (Zs ++ [.dN false (eK s2.2)]), by rw [← hSS, ← hA]; simp, .inr (.inl ⟨rfl, fun j hj p hr => (B'.closed hr).2, fun i hi hqi => ?_, k + 1, hlt, hq', .inl hnil'⟩)⟩
            by_cases hik : i ≤ k + 1
            · have := hSm i hik
              omega
            · have := run_nil hnil' (i - (k + 1))
              rw [show k + 1 + (i - (k + 1)) = i by omega] at this
              rw [this]
              have := hSm (k + 1) (Nat.le_refl _)
              omega
          · refine ⟨k + 1, A.length + 1 + Zs.length, X0, Zs ++ [.dN false (eK s2.2)], _, _, _, _, _, _, rfl, hlt, hq', hSm, by rw [hrun', hA, hSS], by rw [hrun']; exact hmoA, by rw [hA]; omega, by rw [hA]; simp, rfl⟩
    · rintro ρ S' ⟨j, Li, X0, Zs, x8, x9, x10, x11, x12, x13, hk, hj, hq, hsm, rfl, hLi, hL1, hL2, rfl⟩
      have hjm := rng_end hk hj
      subst hjm
      refine Ev.ret (d := .non) (S' := (S ++ [X0]) ++ .dN false (eK (G.keys (runQ b q z st j).1)) :: Zs) rfl ⟨_, X0 :: .dN false (eK (G.keys (runQ b q z st j).1)) :: Zs, by simp, .inr (.inl ⟨rfl, fun i hi p hr => (run_bi hq).before hi hr, fun i hi _ => by have := hsm i (by omega); omega, j, Nat.le_refl _, hq, .inr rfl⟩)⟩
  obtain ⟨f, e, d, T, rfl, hfnd⟩ := key
  refine ⟨d, call_ev ⟨_, e, T, rfl⟩ ?_, hfnd⟩
  rcases hfnd with ⟨rfl, _⟩ | ⟨rfl, _⟩ | ⟨k, rfl, _⟩ <;> rfl
end K84

/-! k84: what is told is walked. -/
namespace K84
open PySem PySem.Spec PyProof.Rows L2 DL BK

theorem isI (i : Int) (S : Store) : isiD "int" (.int i) S = some (.bl true, S) := by simp [isiD, tyD, k_ii]
theorem isIb (i : Int) (S : Store) : isiD "bool" (.int i) S = some (.bl false, S) := by simp [isiD, tyD, k_ib]
theorem isT (xs : List D) (S : Store) : isiD "tuple" (.tup xs) S = some (.bl true, S) := by simp [isiD, tyD, k_tt]
theorem ints_nat (ns : List Nat) : asInts (ns.map fun n => D.int (n : Nat)) = some (ns.map fun n => ((n : Nat) : Int)) := asInts_map (fun n : Nat => ((n : Nat) : Int)) ns
theorem notIn_ok {n : Nat} {ns : List Nat} {S : Store} (h : n ∈ ns) : inLD true (.int n) (.lst (ns.map fun n => .int (n : Nat))) S = some (.bl false, S) := by
  have : ((n : Nat) : Int) ∈ ns.map fun n => ((n : Nat) : Int) := List.mem_map.mpr ⟨n, h, rfl⟩
  simp only [inLD, asSeq, asQ, asL, ints_nat, if_true, this, decide_true, Bool.not_true]
theorem lright_ok {b : Bk} (W : WB b) {q : Pol} (ho : polOk b q) {z : Sz} (hsz : szOk b z) {st : Plc} (hst : PlW b st) {ns : List Nat} {n : Nat} {p : Plc} (hw : G.W (scQ b q z) st ns p) (hn : n ∈ numsQ b q p) (hd : dry (aft b p n) = true) (hl : ns.length ≤ 1000) {S : Store} :
    f__law_right [eB b, .int st.1, eL st.2, eQ q, eN (ns ++ [n]), .int ((ns.length + 1 : Nat) : Int), eZ z] S = some (.bl true, S) := by
  have hT := W.t2
  have z2 : (2 : Nat) ≤ sizeLine := by rw [sizeLine_eq]; omega
  generalize hpl : ns ++ [n] = pl
  have hlen : pl.length = ns.length + 1 := by rw [← hpl]; simp
  refine call_ev ?_ rfl
  unfold c__law_right
  refine Ev.seq (Ev.ifF (S' := S) (by simp [sSeq, sSet, sRet, sExpr, sIf, gN, gT, gsCons, gsNil, cVar, cC, cBin, cUn, cNil, cCons, cApp, cB, cTr, cAnd, cOr, cNot, cV, cAndV, cOrV, cNotV, cIf, nD, mkTup, mkLst, mkBox, asQ, asL, negD, addD, subD, cmpD, isND, notND, eqD, neD, eqS, lenD, tupleD, DL.intD, cM, apnd, popM, sPar, sPar3, sNext, sAug, ipD, eN, isT, hlen]) (Ev.next ?_))
  refine Ev.seq (Ev.setN (d := eP st) (S' := S) (by simp [sSeq, sSet, sRet, sExpr, sIf, gN, gT, gsCons, gsNil, cVar, cC, cBin, cUn, cNil, cCons, cApp, cB, cTr, cAnd, cOr, cNot, cV, cAndV, cOrV, cNotV, cIf, nD, mkTup, mkLst, mkBox, asQ, asL, negD, addD, subD, cmpD, isND, notND, eqD, neD, eqS, lenD, tupleD, DL.intD, cM, apnd, popM, sPar, sPar3, sNext, sAug, ipD, z2, eP]) ?_)
  refine Ev.seq (Ev.for_ (S' := S) (fun k : Nat => .int (k : Nat)) (fun ks ρ S' => S' = S ∧ ∃ (j : Nat) (x7 : D) (x8 x9 x10 : Option D), ks = List.range' j (ns.length + 1 - j) ∧ j ≤ ns.length + 1 ∧ ρ = [some (eB b), some (.int st.1), some (eL st.2), some (eQ q), some (eN pl), some (.int ((ns.length + 1 : Nat) : Int)), some (eZ z), some x7, x8, x9, x10] ∧
      (j < ns.length + 1 → ∃ pc ns', x7 = eP pc ∧ PlW b pc ∧ pl.drop j = ns' ++ [n] ∧ G.W (scQ b q z) pc ns' p))
    (rng1 (n := ns.length + 1) rfl (by omega)) rfl ⟨rfl, 0, _, _, _, _, by rw [List.range_eq_range']; simp, Nat.zero_le _, rfl, fun _ => ⟨st, ns, rfl, hst, by rw [← hpl]; simp, hw⟩⟩ ?_ ?_)
  · rintro k ks ρ S' ⟨rfl, j, x7, x8, x9, x10, hk, hj, rfl, hx⟩
    obtain ⟨rfl, hlt, rfl⟩ := rng_at hk hj
    obtain ⟨pc, ns', rfl, hpc, hdr, hw'⟩ := hx hlt
    refine ⟨_, rfl, ?_⟩
    -- the number
    obtain ⟨y, ys, hys⟩ : ∃ y ys, ns' ++ [n] = y :: ys := by
      cases ns' with
      | nil => exact ⟨n, [], rfl⟩
      | cons y ys => exact ⟨y, ys ++ [n], rfl⟩
    have hky : pl[k]? = some y := by
      have e1 : (pl.drop k)[0]? = some y := by rw [hdr, hys]; rfl
      rw [List.getElem?_drop] at e1
      simpa using e1
    have hdr1 : pl.drop (k + 1) = ys := by
      rw [← List.drop_drop, hdr, hys]
      rfl
    have hlk : pl.length - k = ns'.length + 1 := by
      have := congrArg List.length hdr
      simpa using this
    have hyn : y ∈ numsQ b q pc := by
      cases hw' with
      | nil => cases hys; exact hn
      | cons e _ =>
        cases hys
        exact (sc_mem e).1
    have hnl := numsG_lt (pkQ_ok ho) hpc hyn
    have hal := aft_len W hpc hnl
    have hzl := hsz.l (l := aft b pc y) hal
    have hne : spl z (aft b pc y) ≠ [] := by
      intro h0
      have h1 := spl_len hzl
      rw [h0] at h1
      have := W.t1
      simp at h1
      omega
    have hdl' : dry (spl z (aft b pc y)) = dry (aft b pc y) := spl_dry fun u e => ⟨hzl u e, (hsz u e).2⟩
    have hmin : decide (minL (spl z (aft b pc y)) < 0) = dry (aft b pc y) := by
      have := minL_dry hne
      rw [hdl'] at this
      cases hd : dry (aft b pc y) with
      | true => rw [hd] at this; simp at this; simp; omega
      | false => rw [hd] at this; simp at this; simp; omega
    refine Ev.seq (Ev.setN (d := .int y) (S' := S') (by simp [sSeq, sSet, sRet, sExpr, sIf, gN, gT, gsCons, gsNil, cVar, cC, cBin, cUn, cNil, cCons, cApp, cB, cTr, cAnd, cOr, cNot, cV, cAndV, cOrV, cNotV, cIf, nD, mkTup, mkLst, mkBox, asQ, asL, negD, addD, subD, cmpD, isND, notND, eqD, neD, eqS, lenD, tupleD, DL.intD, cM, apnd, popM, sPar, sPar3, sNext, sAug, ipD, ixN' hky]) ?_)
    have hturn := lturns_ok W ho hpc (S := S')
    refine Ev.seq (Ev.ifF (S' := S') (by
      have hin := notIn_ok (S := S') hyn
      simp [sSeq, sSet, sRet, sExpr, sIf, gN, gT, gsCons, gsNil, cVar, cC, cBin, cUn, cNil, cCons, cApp, cB, cTr, cAnd, cOr, cNot, cV, cAndV, cOrV, cNotV, cIf, nD, mkTup, mkLst, mkBox, asQ, asL, negD, addD, subD, cmpD, isND, notND, eqD, neD, eqS, lenD, tupleD, DL.intD, cM, apnd, popM, sPar, sPar3, sNext, sAug, ipD, isI, isIb, hturn, hin]) (Ev.next ?_))
    obtain ⟨x, hx, hmx, _⟩ := ixSt hpc.s
    have hm' : x.2[y]? = some (mvA b pc.1 y) := by rw [← hmx]; exact mvA_at hnl
    refine Ev.seq (Ev.setN (d := eM (mvA b pc.1 y)) (S' := S') (by simp [sSeq, sSet, sRet, sExpr, sIf, gN, gT, gsCons, gsNil, cVar, cC, cBin, cUn, cNil, cCons, cApp, cB, cTr, cAnd, cOr, cNot, cV, cAndV, cOrV, cNotV, cIf, nD, mkTup, mkLst, mkBox, asQ, asL, negD, addD, subD, cmpD, isND, notND, eqD, neD, eqS, lenD, tupleD, DL.intD, cM, apnd, popM, sPar, sPar3, sNext, sAug, ipD, ixB1, ixP0, hx, ixS1, ixMs hm']) ?_)
    have hmp : (mvA b pc.1 y).p.length = pc.2.length := by rw [mvA_p W hnl, hpc.l]
    refine Ev.seq (Ev.setN (d := eP (nx b z pc y)) (S' := S') (by
      have h1 := lpour_ok (l := pc.2) (m := mvA b pc.1 y) (S := S') (by rw [hpc.l]; omega) hmp
      have h2 := lspilt_ok (z := z) (l := aft b pc y) hzl (by omega) (S := S')
      unfold aft at h2
      simp only [cApp, cCons, cNil, cBin, cVar, cC, List.getElem?_cons_zero, List.getElem?_cons_succ, List.set_cons_zero, List.set_cons_succ, gN, ixM2, ixP1, nD, List.map_cons, List.map_nil, List.length_cons, List.length_nil, List.replicate, Nat.reduceSub, List.cons_append, List.nil_append, Nat.reduceAdd, Nat.zero_add, if_true, h1, h2, mkTup, z2]
      rfl) ?_)
    have hlast : dry (aft b pc y) = decide ((k : Int) = ((ns.length + 1 : Nat) : Int) - 1) := by
      cases hw' with
      | nil =>
        cases hys
        rw [hd]
        have : k = ns.length := by simp at hlk; omega
        subst this
        symm
        rw [decide_eq_true_eq]
        omega
      | @cons _ r _ m ms e _ =>
        cases hys
        have := (sc_mem e).2.1
        simp only at this
        rw [this]
        symm
        rw [decide_eq_false_iff_not]
        simp at hlk
        omega
    refine Ev.ifF (S' := S') ?_ (Ev.next ⟨rfl, k + 1, eP (nx b z pc y), _, _, _, rfl, hlt, rfl, fun hlt' => ?_⟩)
    · refine cB_of (cBin_of (cBin_of (cApp_of (cCons1 (cBin_of (x := eP (nx b z pc y)) rfl rfl ixP1)) (min_eL hne)) rfl rfl) (cBin_of rfl (cBin_of rfl rfl rfl) rfl) ?_)
      show neD (.bl (decide (minL (spl z (aft b pc y)) < 0))) (.bl (decide ((k : Int) = ((ns.length + 1 : Nat) : Int) - 1))) S' = _
      rw [hmin, hlast]
      simp [neD, eqS]
    · cases hw' with
      | nil =>
        simp at hlk
        omega
      | @cons _ r _ m ms e hw2 =>
        cases hys
        obtain ⟨h1, h2, h3⟩ := sc_mem e
        simp only at h3
        exact ⟨r, ms, by rw [h3], by rw [h3]; exact nx_w W ho hsz hpc h1, hdr1, hw2⟩
  · rintro ρ S' ⟨rfl, j, x7, x8, x9, x10, hk, hj, rfl, hx⟩
    exact Ev.ret (d := .bl true) (S' := S') rfl ⟨[], by simp⟩
/-- two who search find as long a play -/
theorem fnd_len {b : Bk} {q : Pol} {z : Sz} {st : Plc} {most k : Nat} {pl : List Nat} (h : Fnd b q z st most (some pl)) (hk : ∃ p, G.R (scQ b q z) st k p ∧ exQ b q p = true) (hb : ∀ j, j < k → ∀ p, G.R (scQ b q z) st j p → exQ b q p = false) :
    ∃ ns n p, pl = ns ++ [n] ∧ ns.length = k ∧ G.W (scQ b q z) st ns p ∧ n ∈ numsQ b q p ∧ dry (aft b p n) = true := by
  obtain ⟨ns, n, p, h1, h2, h3, h4, h5, h6⟩ := h
  refine ⟨ns, n, p, h1, ?_, h3, h4, h5⟩
  obtain ⟨p', r', e'⟩ := hk
  have hex : exQ b q p = true := by
    unfold exQ
    rw [List.any_eq_true]
    exact ⟨n, h4, h5⟩
  rcases Nat.lt_trichotomy ns.length k with hlt | he | hgt
  · have := hb _ hlt p h3.r
    rw [hex] at this
    cases this
  · exact he
  · have := h6 k hgt p' r'
    rw [e'] at this
    cases this
theorem lbeaten_ok {b : Bk} (W : WB b) (h9 : ∀ s, (mvs b s).length ≤ 9) {o : List (List Nat)} (ho : ordOk b o) {st : Plc} (hst : PlW b st) {most : Nat} (hm : most ≤ 1000) {S : Store} : f__law_beaten [eB b, .int st.1, eL st.2, eO o, .int most] S = some (.bl true, S) := by
  have hpo : polOk b (.ord o) := ho
  have hsz : szOk b none := fun y e => by cases e
  obtain ⟨d, e1, hL⟩ := lfewest_ok W h9 hpo hsz hst hm (S := S)
  have e1' : f__law_fewest [eB b, .int st.1, eL st.2, eO o, .int most, .non] S = some (d, S) := e1
  refine call_ev ?_ rfl
  unfold c__law_beaten
  refine Ev.seq (Ev.setN (d := d) (S' := S) (by simp [sSeq, sSet, sRet, sExpr, sIf, gN, gT, gsCons, gsNil, cVar, cC, cBin, cUn, cNil, cCons, cApp, cB, cTr, cAnd, cOr, cNot, cV, cAndV, cOrV, cNotV, cIf, nD, mkTup, mkLst, mkBox, asQ, asL, negD, addD, subD, cmpD, isND, notND, eqD, neD, eqS, lenD, tupleD, DL.intD, cM, apnd, popM, sPar, sPar3, sNext, sAug, ipD, e1']) ?_)
  rcases hL with ⟨rfl, _⟩ | ⟨rfl, hn, hF, _⟩ | ⟨k, rfl, hk, hx, hb, hF⟩
  · exact Ev.seq (Ev.ifT (S' := S) (by simp [sSeq, sSet, sRet, sExpr, sIf, gN, gT, gsCons, gsNil, cVar, cC, cBin, cUn, cNil, cCons, cApp, cB, cTr, cAnd, cOr, cNot, cV, cAndV, cOrV, cNotV, cIf, nD, mkTup, mkLst, mkBox, asQ, asL, negD, addD, subD, cmpD, isND, notND, eqD, neD, eqS, lenD, tupleD, DL.intD, cM, apnd, popM, sPar, sPar3, sNext, sAug, ipD]) (Ev.ret (d := .bl true) (S' := S) rfl ⟨[], by simp⟩))
  · obtain ⟨r, e2, hfd⟩ := beaten_ok W h9 ho hst hm hF (S := S)
    refine Ev.seq (Ev.ifF (S' := S) (by simp [sSeq, sSet, sRet, sExpr, sIf, gN, gT, gsCons, gsNil, cVar, cC, cBin, cUn, cNil, cCons, cApp, cB, cTr, cAnd, cOr, cNot, cV, cAndV, cOrV, cNotV, cIf, nD, mkTup, mkLst, mkBox, asQ, asL, negD, addD, subD, cmpD, isND, notND, eqD, neD, eqS, lenD, tupleD, DL.intD, cM, apnd, popM, sPar, sPar3, sNext, sAug, ipD]) (Ev.next ?_))
    refine Ev.seq (Ev.setN (d := eF r) (S' := S) (by simp [sSeq, sSet, sRet, sExpr, sIf, gN, gT, gsCons, gsNil, cVar, cC, cBin, cUn, cNil, cCons, cApp, cB, cTr, cAnd, cOr, cNot, cV, cAndV, cOrV, cNotV, cIf, nD, mkTup, mkLst, mkBox, asQ, asL, negD, addD, subD, cmpD, isND, notND, eqD, neD, eqS, lenD, tupleD, DL.intD, cM, apnd, popM, sPar, sPar3, sNext, sAug, ipD, e2]) ?_)
    cases r with
    | none => exact Ev.ret (d := .bl true) (S' := S) (by simp [sSeq, sSet, sRet, sExpr, sIf, gN, gT, gsCons, gsNil, cVar, cC, cBin, cUn, cNil, cCons, cApp, cB, cTr, cAnd, cOr, cNot, cV, cAndV, cOrV, cNotV, cIf, nD, mkTup, mkLst, mkBox, asQ, asL, negD, addD, subD, cmpD, isND, notND, eqD, neD, eqS, lenD, tupleD, DL.intD, cM, apnd, popM, sPar, sPar3, sNext, sAug, ipD, eF]) ⟨[], by simp⟩
    | some pl =>
      obtain ⟨ns, n, p, h1, h2, h3, h4, h5, h6⟩ := hfd
      have := hn _ h2 p h3.r
      unfold exQ at this
      rw [← Bool.not_eq_true, List.any_eq_true] at this
      exact absurd ⟨n, h4, h5⟩ this
  · obtain ⟨r, e2, hfd⟩ := beaten_ok W h9 ho hst hm hF (S := S)
    refine Ev.seq (Ev.ifF (S' := S) (by simp [sSeq, sSet, sRet, sExpr, sIf, gN, gT, gsCons, gsNil, cVar, cC, cBin, cUn, cNil, cCons, cApp, cB, cTr, cAnd, cOr, cNot, cV, cAndV, cOrV, cNotV, cIf, nD, mkTup, mkLst, mkBox, asQ, asL, negD, addD, subD, cmpD, isND, notND, eqD, neD, eqS, lenD, tupleD, DL.intD, cM, apnd, popM, sPar, sPar3, sNext, sAug, ipD]; omega) (Ev.next ?_))
    refine Ev.seq (Ev.setN (d := eF r) (S' := S) (by simp [sSeq, sSet, sRet, sExpr, sIf, gN, gT, gsCons, gsNil, cVar, cC, cBin, cUn, cNil, cCons, cApp, cB, cTr, cAnd, cOr, cNot, cV, cAndV, cOrV, cNotV, cIf, nD, mkTup, mkLst, mkBox, asQ, asL, negD, addD, subD, cmpD, isND, notND, eqD, neD, eqS, lenD, tupleD, DL.intD, cM, apnd, popM, sPar, sPar3, sNext, sAug, ipD, e2]) ?_)
    cases r with
    | none =>
      obtain ⟨p, hr, he⟩ := hx
      have := hfd k hk p hr
      rw [he] at this
      cases this
    | some pl =>
      obtain ⟨ns, n, p, rfl, h2, h3, h4, h5⟩ := fnd_len hfd hx hb
      have := lright_ok W hpo hsz hst h3 h4 h5 (by omega) (S := S)
      rw [h2] at this
      have this' : f__law_right [eB b, .int st.1, eL st.2, eO o, eN (ns ++ [n]), .int ((k + 1 : Nat) : Int), .non] S = some (.bl true, S) := this
      refine Ev.ret (d := .bl true) (S' := S) ?_ ⟨[], by simp⟩
      have hi : cB (cBin isND (cVar 5) (cC .non)) [some (eB b), some (.int st.1), some (eL st.2), some (eO o), some (.int most), some (.int ((k + 1 : Nat) : Int)), some (eN (ns ++ [n]))] S = some (false, S) := rfl
      show cIf _ _ _ [some (eB b), some (.int st.1), some (eL st.2), some (eO o), some (.int most), some (.int ((k + 1 : Nat) : Int)), some (eN (ns ++ [n]))] S = _
      unfold cIf
      rw [hi]
      simp only [cApp, cCons, cNil, cVar, cC, List.getElem?_cons_zero, List.getElem?_cons_succ, nD, List.map_cons, List.map_nil, List.length_cons, List.length_nil, List.replicate, Nat.reduceSub, List.cons_append, List.nil_append, Nat.reduceAdd, Nat.zero_add, if_true, this']
end K84

/-! k84: the search by a rule. -/
namespace K84
open PySem PySem.Spec PyProof.Rows L2 DL BK

abbrev sq (S : Store) (c : Came) : Store := S ++ [.dN false (eC c), .lst ((G.keys c).map eP)]
section
variable {S : Store} {c : Came}
theorem sq_c : (sq S c)[S.length]? = some (.dN false (eC c)) := by simp
theorem sq_o : (sq S c)[S.length + 1]? = some (.lst ((G.keys c).map eP)) := by
  rw [List.getElem?_append_right (by omega)]
  have : S.length + 1 - S.length = 1 := by omega
  rw [this]; rfl
theorem sq_put {p : Plc} {v : Option (Plc × Nat)} (h : G.clook c p = none) (hz : c.length < 100000) : putD (sq S c) (.ref S.length) (eP p) (eV v) = some (S ++ [.dN false (eC (c ++ [(p, v)])), .lst ((G.keys c).map eP)]) := by
  have hz' : (eC c).length < sizeLine := by rw [sizeLine_eq]; simp [eC]; omega
  unfold putD
  simp only [sq_c]
  rw [if_pos ⟨okTup_eP p, hz'⟩, dPut_eC h, List.set_append_right _ _ (by omega)]
  simp
end
/-- what the search by a rule tells -/
def FndR (b : Bk) (q : Pol) (z : Sz) (st : Plc) : Option (List Nat) → Prop
  | none => ∀ j p, G.R (scQ b q z) st j p → exQ b q p = false
  | some pl => Fnd b q z st pl.length (some pl)
theorem dries_ok {b : Bk} (W : WB b) (h9 : ∀ s, (mvs b s).length ≤ 9) {r : Rul} {y : Lv} (hsz : szOk b (some y)) {st : Plc} (hst : PlW b st) {U : List Plc} (hU : ∀ k p, G.R (scQ b (.rul r) (some y)) st k p → p ∈ U) (hUl : U.length ≤ 900) {S : Store} :
    ∃ o, f_rule_dries [eB b, .int st.1, eL st.2, eL y, .str (eR r)] S = some (eF o, S) ∧ FndR b (.rul r) (some y) st o := by
  have hT := W.t2
  have z1 : (1 : Nat) ≤ sizeLine := by rw [sizeLine_eq]; omega
  have z2 : (2 : Nat) ≤ sizeLine := by rw [sizeLine_eq]; omega
  have hpo : polOk b (.rul r) := trivial
  have hok : okTup (.tup [.int st.1, eL st.2]) = true := okTup_eP st
  have hn9 : ∀ p, (numsQ b (.rul r) p).length ≤ 9 := fun p => by
    unfold numsQ numsG
    split
    · simp
    · split
      · simp
      · simpa using h9 p.1
  generalize hsc : scQ b (.rul r) (some y) = sc at hU
  have key : Ev c_rule_dries ([eB b, .int st.1, eL st.2, eL y, .str (eR r)].map some ++ List.replicate (15 - 5) none) S (fun f => ∃ o T, f = .rt (eF o) (S ++ T) ∧ FndR b (.rul r) (some y) st o) := by
    unfold c_rule_dries
    refine Ev.seq (Ev.setN (d := .ref S.length) (S' := S ++ [.dN false (eC [(st, none)])]) (by simp [cDisp, sSeq, sSet, sRet, sExpr, sIf, gN, gT, gsCons, gsNil, cVar, cC, cBin, cUn, cNil, cCons, cApp, cB, cTr, cAnd, cOr, cNot, cV, cAndV, cOrV, cNotV, cIf, nD, mkTup, mkLst, mkBox, asQ, asL, negD, addD, subD, cmpD, isND, notND, eqD, neD, eqS, lenD, tupleD, DL.intD, cM, apnd, popM, sPar, sPar3, sNext, sAug, ipD, z2, hok, eC, eP, eV]) ?_)
    refine Ev.seq (Ev.setN (d := .ref (S.length + 1)) (S' := sq S [(st, none)]) (by simp [sSeq, sSet, sRet, sExpr, sIf, gN, gT, gsCons, gsNil, cVar, cC, cBin, cUn, cNil, cCons, cApp, cB, cTr, cAnd, cOr, cNot, cV, cAndV, cOrV, cNotV, cIf, nD, mkTup, mkLst, mkBox, asQ, asL, negD, addD, subD, cmpD, isND, notND, eqD, neD, eqS, lenD, tupleD, DL.intD, cM, apnd, popM, sPar, sPar3, sNext, sAug, ipD, z1, z2, eP, G.keys]) ?_)
    refine Ev.seq (Ev.setN (d := .int (0 : Nat)) (S' := sq S [(st, none)]) rfl ?_)
    refine Ev.seq (Ev.while_ (α := Nat) (fun i ρ S' => ∃ (k : Nat) (c0 : Came) (layer dn rest pre : List Plc) (s2 : Came × List Plc) (x8 x9 x10 x11 x12 x13 x14 : Option D), G.BI sc st (exQ b (.rul r)) k c0 layer ∧ layer = dn ++ rest ∧ s2 = dn.foldl (fun s p => G.stpM sc p s) (c0, []) ∧ G.LI sc c0 layer s2 ∧ (∀ p ∈ dn, exQ b (.rul r) p = false) ∧ G.keys c0 = pre ++ rest ∧ i = pre.length ∧ (rest = [] → layer = [] ∧ s2.2 = []) ∧ (rest ≠ [] → k < c0.length) ∧ S' = sq S s2.1 ∧
        ρ = [some (eB b), some (.int st.1), some (eL st.2), some (eL y), some (.str (eR r)), some (.ref S.length), some (.ref (S.length + 1)), some (.int i), x8, x9, x10, x11, x12, x13, x14])
      (fun i => 1000 - i) 0 ⟨0, [(st, none)], [st], [], [st], [], ([(st, none)], []), none, none, none, none, none, none, none, G.bi_start, rfl, rfl, ⟨⟨[], by simp, rfl⟩, by simp [G.keys], by simp⟩, by simp, rfl, rfl, by simp, by simp, rfl, rfl⟩ ?_)
    rintro i ρ S' ⟨k, c0, layer, dn, rest, pre, s2, x8, x9, x10, x11, x12, x13, x14, B, hlay, hs2, hLI, hdn, hk0, rfl, hr0, hkc, rfl, rfl⟩
    obtain ⟨e2, he1, he2⟩ := hLI.app
    have hks : G.keys s2.1 = pre ++ rest ++ s2.2 := by rw [he1, G.keys_app, he2, hk0]
    have hinU : ∀ p ∈ G.keys s2.1, p ∈ U := fun p hp => by
      rw [he1, G.keys_app, he2] at hp
      rcases List.mem_append.mp hp with hp | hp
      · obtain ⟨n, _, h⟩ := B.key p hp
        exact hU n p h
      · obtain ⟨q, n, h1, h2, _⟩ := hLI.from_ p hp
        obtain ⟨ns, _, h⟩ := B.lay q h1
        exact hU _ p (.succ h.w.r h2)
    have hlen : (G.keys s2.1).length ≤ 900 := Nat.le_trans (G.nodup_le _ U hLI.nd hinU) hUl
    have hct : cB (cBin ltD (cVar 7) (cApp lenD (cCons (cVar 6) cNil))) [some (eB b), some (.int st.1), some (eL st.2), some (eL y), some (.str (eR r)), some (.ref S.length), some (.ref (S.length + 1)), some (.int pre.length), x8, x9, x10, x11, x12, x13, x14] (sq S s2.1) = some (decide (pre.length < (G.keys s2.1).length), sq S s2.1) := by
      refine cB_of (cBin_of rfl (cApp_of (cCons1 rfl) (show lenD [.ref (S.length + 1)] (sq S s2.1) = some (.int ((G.keys s2.1).length : Nat), sq S s2.1) by simp only [lenD, asQ, asL, sq_o, List.length_map])) ?_)
      simp only [cmpD]
      congr 3
      rw [decide_eq_decide]
      omega
    refine ⟨_, _, hct, fun hc => ?_, fun hc => ?_⟩
    · -- done
      have hc' : ¬ pre.length < (G.keys s2.1).length := of_decide_eq_false hc
      rw [hks] at hc'
      have hrest : rest = [] := by
        cases rest with
        | nil => rfl
        | cons x xs => exact absurd (by simp only [List.length_append, List.length_cons]; omega) hc'
      obtain ⟨hl, _⟩ := hr0 hrest
      rw [hl] at B
      refine Ev.ret (d := eF none) (S' := sq S s2.1) rfl ⟨none, _, rfl, fun j p hr => ?_⟩
      rw [hsc] at hr
      exact (B.closed hr).2
    · have hc' : pre.length < (G.keys s2.1).length := of_decide_eq_true hc
      obtain ⟨p, rest', rfl⟩ : ∃ p rest', rest = p :: rest' := by
        cases rest with
        | nil =>
          have := (hr0 rfl).2
          rw [hks, this] at hc'
          simp at hc'
        | cons x xs => exact ⟨x, xs, rfl⟩
      have hpl : p ∈ layer := by rw [hlay]; simp
      have hpw : PlW b p := by
        obtain ⟨ns, _, h⟩ := B.lay p hpl
        have := h.w.r
        rw [← hsc] at this
        exact R_w W hpo hsz hst this
      have hat : (G.keys s2.1)[pre.length]? = some p := by
        rw [hks]
        simp
      refine Ev.seq (Ev.setN (d := eP p) (S' := sq S s2.1) (by
        refine cBin_of rfl rfl ?_
        show ixD (.ref (S.length + 1)) (.int (pre.length : Nat)) (sq S s2.1) = _
        have : L2.atI ((G.keys s2.1).map eP) (pre.length : Int) = some (eP p) := atI_nat (by rw [List.getElem?_map, hat]; rfl)
        simp only [ixD, asQ, asL, sq_o, this, Option.map_some]) ?_)
      refine Ev.seq (a := sAug 7 iaddD (cC (.int 1))) ⟨.nx [some (eB b), some (.int st.1), some (eL st.2), some (eL y), some (.str (eR r)), some (.ref S.length), some (.ref (S.length + 1)), some (.int ((pre.length + 1 : Nat) : Int)), some (eP p), x9, x10, x11, x12, x13, x14] (sq S s2.1), by simp [sAug, cC, ipD], ?_⟩
      show Ev _ _ _ _
      refine Ev.for_ (S' := sq S s2.1) (fun n : Nat => .int (n : Nat)) (fun ns ρ S' => ∃ (pr : List Nat) (s3 : Came × List Plc) (x9 x10 x11 x12 x13 x14 : Option D), numsQ b (.rul r) p = pr ++ ns ∧ s3 = pr.foldl (fun s n => G.stp p (n, nx b (some y) p n) s) s2 ∧ (∀ n ∈ pr, dry (aft b p n) = false) ∧ S' = sq S s3.1 ∧ G.LI sc c0 layer s3 ∧ s3.1.length ≤ 900 + pr.length ∧
          ρ = [some (eB b), some (.int st.1), some (eL st.2), some (eL y), some (.str (eR r)), some (.ref S.length), some (.ref (S.length + 1)), some (.int ((pre.length + 1 : Nat) : Int)), some (eP p), x9, x10, x11, x12, x13, x14])
        (xs := (numsQ b (.rul r) p).map fun n => .int (n : Nat)) (by simp [cItS, sSeq, sSet, sRet, sExpr, sIf, gN, gT, gsCons, gsNil, cVar, cC, cBin, cUn, cNil, cCons, cApp, cB, cTr, cAnd, cOr, cNot, cV, cAndV, cOrV, cNotV, cIf, nD, mkTup, mkLst, mkBox, asQ, asL, negD, addD, subD, cmpD, isND, notND, eqD, neD, eqS, lenD, tupleD, DL.intD, cM, apnd, popM, sPar, sPar3, sNext, sAug, ipD, numbersBy_ok W hpw, itSeq, numsQ, pkQ]) rfl ⟨[], s2, _, _, _, _, _, _, rfl, rfl, by simp, rfl, hLI, by rw [keys_len] at hlen; simpa using hlen, rfl⟩ ?_ ?_
      · rintro n ns ρ S' ⟨pr, s3, x9, x10, x11, x12, x13, x14, hnum, hs3, hpr, rfl, hLI3, hz3, rfl⟩
        have hnn : n ∈ numsQ b (.rul r) p := by rw [hnum]; simp
        have hnl := numsG_lt (pkQ_ok hpo) hpw hnn
        have hal := aft_len W hpw hnl
        have hpl9 : pr.length + 1 ≤ 9 := by
          have := congrArg List.length hnum
          have := hn9 p
          simp at *
          omega
        generalize hm : mvA b p.1 n = m
        have hmat : (mvs b p.1)[n]? = some m := by rw [← hm]; exact mvA_at hnl
        have haft : add p.2 m.p = aft b p n := by unfold aft; rw [hm]
        refine ⟨_, rfl, ?_⟩
        refine Ev.seq (Ev.set (d := eM m) (S' := sq S s3.1) (ρ' := [some (eB b), some (.int st.1), some (eL st.2), some (eL y), some (.str (eR r)), some (.ref S.length), some (.ref (S.length + 1)), some (.int ((pre.length + 1 : Nat) : Int)), some (eP p), some (.int n), some (.str m.w), some (eL m.p), some (.int m.to), x13, x14]) (by simp [sSeq, sSet, sRet, sExpr, sIf, gN, gT, gsCons, gsNil, cVar, cC, cBin, cUn, cNil, cCons, cApp, cB, cTr, cAnd, cOr, cNot, cV, cAndV, cOrV, cNotV, cIf, nD, mkTup, mkLst, mkBox, asQ, asL, negD, addD, subD, cmpD, isND, notND, eqD, neD, eqS, lenD, tupleD, DL.intD, cM, apnd, popM, sPar, sPar3, sNext, sAug, ipD, ixP0, moves_ok hpw.s, ixMs hmat]) (by simp [gT, gsCons, gN, gsNil, eM]) ?_)
        refine Ev.seq (Ev.setN (d := eL (aft b p n)) (S' := sq S s3.1) (cApp_of (cCons_of (cBin_of (x := eP p) rfl rfl ixP1) (cCons1 rfl)) (nD_of (by rw [poured_ok (l := p.2) (by rw [hpw.l]; omega), haft]) rfl)) ?_)
        refine Ev.seq (Ev.ite (c := dry (aft b p n)) (S' := sq S s3.1) (cB_of (cApp_of (cCons1 rfl) (nD_of (dry_ok (l := aft b p n) (by omega)) rfl))) (fun hd => ?_) (fun hd => Ev.next ?_))
        · obtain ⟨ns', hlen', hp'⟩ := B.lay p hpl
          obtain ⟨d, e1, e2⟩ := hLI3.app
          have hp2 : G.Pth sc st s3.1 p ns' := by rw [e1]; exact hp'.app
          have hnsl : ns'.length ≤ 900 := by
            have h1 := hkc (by simp)
            rw [he1, G.keys_app, List.length_append, keys_len] at hlen
            omega
          have hlb := ledback_ok (S := sq S s3.1) (k := S.length) sq_c hp2 (by omega)
          have hcat := cat_eN (ns := ns') (ms := [n]) (S := sq S s3.1) (by simp; omega)
          refine Ev.ret (d := eF (some (ns' ++ [n]))) (S' := sq S s3.1) (cBin_of (cApp_of (cCons_of rfl (cCons1 rfl)) (nD_of hlb rfl)) (cApp_of (q := some (eN [n], sq S s3.1)) (cCons1 rfl) (by simp only [mkTup, List.map_cons, List.map_nil, List.length_cons, List.length_nil, List.replicate, Nat.reduceSub, List.cons_append, List.nil_append, Nat.reduceAdd, Nat.zero_add, z1, if_true]; rfl)) hcat) ⟨some (ns' ++ [n]), _, rfl, ns', n, p, rfl, by simp, ?_, hnn, hd, fun j hj x hr => ?_⟩
          · rw [hsc]; exact hp'.w
          · rw [hsc] at hr
            exact B.before (by omega) hr
        · have hscm := mem_sc (z := some y) hnn hd
          rw [hsc] at hscm
          have hLI4 := hLI3.stp hpl hscm
          have hlk : lookD (sq S s3.1) (.ref S.length) (eP (nx b (some y) p n)) = some ((G.clook s3.1 (nx b (some y) p n)).map eV) := lookN sq_c
          have hl4 := G.stp_len (p := p) (x := (n, nx b (some y) p n)) (st := s3)
          refine Ev.seq (Ev.setN (d := eP (nx b (some y) p n)) (S' := sq S s3.1) (by
            refine cApp_of (cCons_of rfl (cCons1 (cApp_of (cCons_of rfl (cCons1 rfl)) (nD_of (lesser_ok (l := aft b p n) (by omega)) rfl)))) ?_
            simp only [mkTup, List.map_cons, List.map_nil, List.length_cons, List.length_nil, List.replicate, Nat.reduceSub, List.cons_append, List.nil_append, Nat.reduceAdd, Nat.zero_add, z2, if_true]
            unfold nx
            rw [hm]
            rfl) ?_)
          have done : ∀ s4, G.stp p (n, nx b (some y) p n) s3 = s4 → ∃ (pr' : List Nat) (s5 : Came × List Plc) (y9 y10 y11 y12 y13 y14 : Option D), numsQ b (.rul r) p = pr' ++ ns ∧ s5 = pr'.foldl (fun s n => G.stp p (n, nx b (some y) p n) s) s2 ∧ (∀ n ∈ pr', dry (aft b p n) = false) ∧ sq S s4.1 = sq S s5.1 ∧ G.LI sc c0 layer s5 ∧ s5.1.length ≤ 900 + pr'.length ∧
              [some (eB b), some (.int st.1), some (eL st.2), some (eL y), some (.str (eR r)), some (.ref S.length), some (.ref (S.length + 1)), some (.int ((pre.length + 1 : Nat) : Int)), some (eP p), some (.int n), some (.str m.w), some (eL m.p), some (.int m.to), some (eL (aft b p n)), some (eP (nx b (some y) p n))] = [some (eB b), some (.int st.1), some (eL st.2), some (eL y), some (.str (eR r)), some (.ref S.length), some (.ref (S.length + 1)), some (.int ((pre.length + 1 : Nat) : Int)), some (eP p), y9, y10, y11, y12, y13, y14] := by
            rintro s4 rfl
            refine ⟨pr ++ [n], _, _, _, _, _, _, _, by rw [hnum]; simp, by rw [List.foldl_append, ← hs3]; rfl, fun m hm => ?_, rfl, hLI4, by simp; omega, rfl⟩
            rcases List.mem_append.mp hm with hm | hm
            · exact hpr m hm
            · rw [List.mem_singleton.mp hm]; exact hd
          cases hcl3 : G.clook s3.1 (nx b (some y) p n) with
          | some v =>
            rw [hcl3] at hlk
            exact Ev.ifF (S' := sq S s3.1) (cB_of (cBin_of rfl rfl (by simp only [dNotInD, hlk, Option.map_some]; rfl))) (Ev.next (done s3 (by unfold G.stp; rw [if_neg (by simp [hcl3])])))
          | none =>
            rw [hcl3] at hlk
            refine Ev.ifT (S' := sq S s3.1) (cB_of (cBin_of rfl rfl (by simp only [dNotInD, hlk, Option.map_some]; rfl))) ?_
            refine Ev.seq (Ev.dput (d := eV (some (p, n))) (x := .ref S.length) (y := eP (nx b (some y) p n)) (S1 := sq S s3.1) (S4 := S ++ [.dN false (eC (s3.1 ++ [(nx b (some y) p n, some (p, n))])), .lst ((G.keys s3.1).map eP)])
              (cApp_of (cCons_of rfl (cCons1 rfl)) (by simp only [mkTup, List.map_cons, List.map_nil, List.length_cons, List.length_nil, List.replicate, Nat.reduceSub, List.cons_append, List.nil_append, Nat.reduceAdd, Nat.zero_add, z2, if_true]; rfl)) rfl rfl (sq_put hcl3 (by omega)) ?_)
            have ho : ∀ c : Came, (S ++ [Cell.dN false (eC c), Cell.lst ((G.keys s3.1).map eP)])[S.length + 1]? = some (.lst ((G.keys s3.1).map eP)) := fun c => by
              rw [List.getElem?_append_right (by omega)]
              have : S.length + 1 - S.length = 1 := by omega
              rw [this]; rfl
            refine Ev.apnd (k := S.length + 1) (S1 := S ++ [.dN false (eC (s3.1 ++ [(nx b (some y) p n, some (p, n))])), .lst ((G.keys s3.1).map eP)]) (S2 := S ++ [.dN false (eC (s3.1 ++ [(nx b (some y) p n, some (p, n))])), .lst ((G.keys s3.1).map eP)]) (ds0 := (G.keys s3.1).map eP) (ds := (G.keys s3.1).map eP) (x := eP (nx b (some y) p n)) rfl (ho _) rfl (ho _) (by rw [List.length_map, keys_len]; omega) ?_
            have hset : (S ++ [Cell.dN false (eC (s3.1 ++ [(nx b (some y) p n, some (p, n))])), .lst ((G.keys s3.1).map eP)]).set (S.length + 1) (.lst ((G.keys s3.1).map eP ++ [eP (nx b (some y) p n)])) = sq S (s3.1 ++ [(nx b (some y) p n, some (p, n))]) := by
              rw [List.set_append_right _ _ (by omega)]
              have : S.length + 1 - S.length = 1 := by omega
              rw [this]
              simp [G.keys]
            rw [hset]
            exact done (s3.1 ++ [(nx b (some y) p n, some (p, n))], s3.2 ++ [nx b (some y) p n]) (by unfold G.stp; rw [if_pos (by simpa using hcl3)])
      · rintro ρ S' ⟨pr, s3, x9, x10, x11, x12, x13, x14, hnum, hs3, hpr, rfl, hLI3, hz3, rfl⟩
        rw [List.append_nil] at hnum
        have hex : exQ b (.rul r) p = false := by
          unfold exQ
          rw [← Bool.not_eq_true, List.any_eq_true]
          rintro ⟨n, hn, hd⟩
          rw [hnum] at hn
          rw [hpr n hn] at hd
          cases hd
        have hdn' : ∀ x ∈ dn ++ [p], exQ b (.rul r) x = false := fun x hx => by
          rcases List.mem_append.mp hx with hx | hx
          · exact hdn x hx
          · rw [List.mem_singleton.mp hx]; exact hex
        have hfold : s3 = (dn ++ [p]).foldl (fun s p => G.stpM sc p s) (c0, []) := by
          rw [List.foldl_append, ← hs2, hs3, ← hnum]
          show _ = G.stpM _ p s2
          unfold G.stpM
          rw [← hsc, sc_all hex, List.foldl_map]
        obtain ⟨e3, h31, h32⟩ := hLI3.app
        refine ⟨pre.length + 1, by rw [hks] at hlen; simp at hlen; omega, ?_⟩
        by_cases hr : rest' = []
        · subst hr
          have hall : ∀ x ∈ layer, exQ b (.rul r) x = false := by rw [hlay]; exact hdn'
          have hrun : G.layr sc layer c0 = s3 := by rw [hfold, ← hlay]; rfl
          have B' := G.bi_step B hall
          rw [hrun] at B'
          refine ⟨k + 1, s3.1, s3.2, [], s3.2, pre ++ [p], (s3.1, []), _, _, _, _, _, _, _, B', rfl, rfl, ⟨⟨[], by simp, rfl⟩, B'.nd, by simp⟩, by simp, ?_, by simp, fun h => ⟨h, rfl⟩, fun h => ?_, rfl, rfl⟩
          · rw [h31, G.keys_app, h32, hk0]
          · have h1 := hkc (by simp)
            have h2 : 0 < s3.2.length := List.length_pos_iff.mpr h
            have h3 : e3.length = s3.2.length := by rw [← h32, keys_len]
            show k + 1 < s3.1.length
            rw [h31, List.length_append]
            omega
        · refine ⟨k, c0, layer, dn ++ [p], rest', pre ++ [p], s3, _, _, _, _, _, _, _, B, by rw [hlay]; simp, hfold, hLI3, hdn', by rw [hk0]; simp, by simp, fun h => absurd h hr, fun _ => hkc (by simp), rfl, rfl⟩
  obtain ⟨f, e, o, T, rfl, hfnd⟩ := key
  exact ⟨o, call_ev ⟨_, e, T, rfl⟩ (below_eF o), hfnd⟩
theorem keeps_ok {b : Bk} (W : WB b) (h9 : ∀ s, (mvs b s).length ≤ 9) {r : Rul} {y : Lv} (hsz : szOk b (some y)) {st : Plc} (hst : PlW b st) {U : List Plc} (hU : ∀ k p, G.R (scQ b (.rul r) (some y)) st k p → p ∈ U) (hUl : U.length ≤ 900) {S : Store} :
    ∃ o, f_rule_dries [eB b, .int st.1, eL st.2, eL y, .str (eR r)] S = some (eF o, S) ∧ FndR b (.rul r) (some y) st o ∧ f_rule_keeps [eB b, .int st.1, eL st.2, eL y, .str (eR r)] S = some (.bl (decide (o = none)), S) := by
  obtain ⟨o, e, h⟩ := dries_ok W h9 hsz hst hU hUl (S := S)
  refine ⟨o, e, h, call_rt0 ?_ rfl⟩
  cases o with
  | none => simp [c_rule_keeps, sSeq, sSet, sRet, sExpr, sIf, gN, gT, gsCons, gsNil, cVar, cC, cBin, cUn, cNil, cCons, cApp, cB, cTr, cAnd, cOr, cNot, cV, cAndV, cOrV, cNotV, cIf, nD, mkTup, mkLst, mkBox, asQ, asL, negD, addD, subD, cmpD, isND, notND, eqD, neD, eqS, lenD, tupleD, DL.intD, cM, apnd, popM, sPar, sPar3, sNext, sAug, ipD, e, eF]
  | some pl => simp [c_rule_keeps, sSeq, sSet, sRet, sExpr, sIf, gN, gT, gsCons, gsNil, cVar, cC, cBin, cUn, cNil, cCons, cApp, cB, cTr, cAnd, cOr, cNot, cV, cAndV, cOrV, cNotV, cIf, nD, mkTup, mkLst, mkBox, asQ, asL, negD, addD, subD, cmpD, isND, notND, eqD, neD, eqS, lenD, tupleD, DL.intD, cM, apnd, popM, sPar, sPar3, sNext, sAug, ipD, e, eF, eN]
end K84

/-! k84: levels by an order. -/
namespace K84
open PySem PySem.Spec PyProof.Rows L2 DL BK

abbrev rep (m T : Nat) : Lv := List.replicate T (m : Int)
def Safe (b : Bk) (q : Pol) (z : Sz) (many s m : Nat) : Prop := ∀ j, j < many → ∀ p, G.R (scQ b q z) (s, rep m b.T) j p → exQ b q p = false
theorem rep_w {b : Bk} {s : Nat} (hs : s < b.sts.length) (m : Nat) : PlW b (s, rep m b.T) := ⟨hs, by simp⟩
theorem fnd_none {b : Bk} {q : Pol} {z : Sz} {many s m : Nat} {r : Option (List Nat)} (h : Fnd b q z (s, rep m b.T) many r) : r = none ↔ Safe b q z many s m := by
  cases r with
  | none => exact ⟨fun _ => h, fun _ => rfl⟩
  | some pl =>
    refine ⟨fun z => (by cases z), fun hs => ?_⟩
    obtain ⟨ns, n, p, h1, h2, h3, h4, h5, h6⟩ := h
    have := hs _ h2 p h3.r
    unfold exQ at this
    rw [← Bool.not_eq_true, List.any_eq_true] at this
    exact absurd ⟨n, h4, h5⟩ this
theorem rep_map (m T : Nat) : (List.range T).map (fun _ => D.int (m : Nat)) = (rep m T).map D.int := by
  rw [List.map_replicate, List.map_const', List.length_range]
def eON : Option Nat → D
  | none => .non
  | some m => .int m
theorem ordLev_ok {b : Bk} (W : WB b) (h9 : ∀ s, (mvs b s).length ≤ 9) {o : List (List Nat)} (ho : ordOk b o) {s many : Nat} (hs : s < b.sts.length) (hm : many ≤ 1000)
    (hF : ∀ m, m ≤ 60 → (∀ m', m' < m → ¬ Safe b (.ord o) none many s m') → Few b (.ord o) none (s, rep m b.T) many) {S : Store} :
    ∃ r, f_order_levels [eB b, .int s, eO o, .int many] S = some (eON r, S) ∧ (match r with | none => ∀ m, m ≤ 60 → ¬ Safe b (.ord o) none many s m | some m => m ≤ 60 ∧ Safe b (.ord o) none many s m ∧ ∀ m', m' < m → ¬ Safe b (.ord o) none many s m') := by
  have hT := W.t2
  have key : Ev c_order_levels ([eB b, .int s, eO o, .int many].map some ++ List.replicate (7 - 4) none) S (fun f => ∃ r T, f = .rt (eON r) (S ++ T) ∧ (match r with | none => ∀ m, m ≤ 60 → ¬ Safe b (.ord o) none many s m | some m => m ≤ 60 ∧ Safe b (.ord o) none many s m ∧ ∀ m', m' < m → ¬ Safe b (.ord o) none many s m')) := by
    unfold c_order_levels
    refine Ev.seq (Ev.for_ (S' := S) (fun n : Nat => .int (n : Nat)) (fun ks ρ S' => S' = S ∧ ∃ (j : Nat) (x4 x5 : Option D), ks = List.range' j (61 - j) ∧ j ≤ 61 ∧ ρ = [some (eB b), some (.int s), some (eO o), some (.int many), x4, x5, none] ∧ ∀ m', m' < j → ¬ Safe b (.ord o) none many s m')
      (rng1 (n := 61) (by simp [sSeq, sSet, sRet, sExpr, sIf, gN, gT, gsCons, gsNil, cVar, cC, cBin, cUn, cNil, cCons, cApp, cB, cTr, cAnd, cOr, cNot, cV, cAndV, cOrV, cNotV, cIf, nD, mkTup, mkLst, mkBox, asQ, asL, negD, addD, subD, cmpD, isND, notND, eqD, neD, eqS, lenD, tupleD, DL.intD, cM, apnd, popM, sPar, sPar3, sNext, sAug, ipD]) (by omega)) rfl ⟨rfl, 0, none, none, by rw [List.range_eq_range'], by omega, rfl, fun m' h => by omega⟩ ?_ ?_)
    · rintro m ks ρ S' ⟨rfl, j, x4, x5, hk, hj, rfl, hb⟩
      obtain ⟨rfl, hlt, rfl⟩ := rng_at hk hj
      refine ⟨_, rfl, ?_⟩
      have hc := cLC_map (S := S') (ρ := [some (eB b), some (.int s), some (eO o), some (.int many), some (.int m), x5, none]) (vs := [6]) (ci := cRng1 (cBin ixD (cVar 0) (cC (.int 0)))) (g := gN 6) (e := cVar 4)
        (l := List.range b.T) (fun i => D.int (i : Nat)) (fun _ => .int (m : Nat)) (rng1 (n := b.T) (by simp [sSeq, sSet, sRet, sExpr, sIf, gN, gT, gsCons, gsNil, cVar, cC, cBin, cUn, cNil, cCons, cApp, cB, cTr, cAnd, cOr, cNot, cV, cAndV, cOrV, cNotV, cIf, nD, mkTup, mkLst, mkBox, asQ, asL, negD, addD, subD, cmpD, isND, notND, eqD, neD, eqS, lenD, tupleD, DL.intD, cM, apnd, popM, sPar, sPar3, sNext, sAug, ipD, ixB0]) (by omega)) rfl (small (by simp; omega)) (fun q hq => ⟨_, rfl, rfl⟩)
      rw [rep_map] at hc
      refine Ev.seq (Ev.setN (d := eL (rep m b.T)) (S' := S') (cApp_of (cCons1 (by exact hc)) (by simp [tupleD, asQ, asL, eL])) ?_)
      obtain ⟨r, e1, hfd⟩ := beaten_ok W h9 ho (rep_w hs m) hm (hF m (by omega) hb) (S := S')
      refine Ev.ite (c := decide (r = none)) (S' := S') (cB_of (cBin_of (cApp_of (cCons_of rfl (cCons_of rfl (cCons_of rfl (cCons_of rfl (cCons1 rfl))))) (nD_of e1 rfl)) rfl (by cases r <;> rfl))) (fun h => ?_) (fun h => Ev.next ⟨rfl, m + 1, _, _, rfl, hlt, rfl, fun m' hm' => ?_⟩)
      · exact Ev.ret (d := eON (some m)) (S' := S') rfl ⟨some m, [], by simp, by omega, (fnd_none hfd).mp (of_decide_eq_true h), hb⟩
      · by_cases hmm : m' < m
        · exact hb m' hmm
        · have : m' = m := by omega
          subst this
          exact fun z => of_decide_eq_false h ((fnd_none hfd).mpr z)
    · rintro ρ S' ⟨rfl, j, x4, x5, hk, hj, rfl, hb⟩
      have hj' := rng_end hk hj
      subst hj'
      exact Ev.ret (d := eON none) (S' := S') rfl ⟨none, [], by simp, fun m hm => hb m (by omega)⟩
  obtain ⟨f, e, r, T, rfl, h⟩ := key
  exact ⟨r, call_ev ⟨_, e, T, rfl⟩ (by cases r <;> rfl), h⟩
theorem repD_ok {m T : Nat} (h1 : 1 ≤ T) (h2 : T ≤ 1000) (S : Store) : repD (.tup [.int m]) (.int T) S = some (eL (rep m T), S) := by
  unfold repD
  simp only
  rw [if_pos ⟨by simp, by simp, by omega, by omega⟩]
  have : (List.replicate ((T : Int)).toNat [D.int m]).flatten = (rep m T).map D.int := by
    rw [Int.toNat_natCast, List.map_replicate]
    clear h1 h2
    induction T with
    | zero => rfl
    | succ T ih => simp only [List.replicate_succ, List.flatten_cons, ih]; rfl
  rw [this]
  rfl
theorem enough_ok {b : Bk} (W : WB b) (h9 : ∀ s, (mvs b s).length ≤ 9) {o : List (List Nat)} (ho : ordOk b o) {s many top : Nat} (hs : s < b.sts.length) (hm : many ≤ 1000) (htop : 60 ≤ top ∨ Safe b (.ord o) none many s top) {S : Store} :
    f__law_enough [eB b, .int s, eO o, .int many, .int top] S = some (.bl true, S) := by
  have hT1 := W.t1
  have hT := W.t2
  have hpo : polOk b (.ord o) := ho
  have hsz : szOk b none := fun y e => by cases e
  refine call_ev ?_ rfl
  unfold c__law_enough
  -- what follows the loop
  have fin : ∀ (due : Option Nat) (x6 x7 : Option D), (match due with | none => 60 ≤ top ∧ (∀ m, m ≤ 60 → ¬ Safe b (.ord o) none many s m) | some m => m ≤ 60 ∧ Safe b (.ord o) none many s m ∧ ∀ m', m' < m → ¬ Safe b (.ord o) none many s m') → (∀ m, m ≤ 60 → (∀ m', m' < m → ¬ Safe b (.ord o) none many s m') → Few b (.ord o) none (s, rep m b.T) many) →
      Ev (sRet (cApp (nD 2 f__law_alike) (cCons (cApp (nD 4 f_order_levels) (cCons (cVar 0) (cCons (cVar 1) (cCons (cVar 2) (cCons (cVar 3) cNil))))) (cCons (cVar 5) cNil)))) [some (eB b), some (.int s), some (eO o), some (.int many), some (.int top), some (eON due), x6, x7] S (fun f => ∃ T, f = .rt (.bl true) (S ++ T)) := by
    intro due x6 x7 hdue hF
    obtain ⟨r, e1, hr⟩ := ordLev_ok W h9 ho hs hm hF (S := S)
    have hrd : r = due := by
      cases r with
      | none =>
        cases due with
        | none => rfl
        | some m => exact absurd hdue.2.1 (hr m hdue.1)
      | some m =>
        cases due with
        | none => exact absurd hr.2.1 (hdue.2 m hr.1)
        | some m' =>
          congr 1
          rcases Nat.lt_trichotomy m m' with h | h | h
          · exact absurd hr.2.1 (hdue.2.2 m h)
          · exact h
          · exact absurd hdue.2.1 (hr.2.2 m' h)
    subst hrd
    have hal : f__law_alike [eON r, eON r] S = some (.bl true, S) := alike_ok 4 (by cases r <;> rfl)
    exact Ev.ret (d := .bl true) (S' := S) (cApp_of (cCons_of (cApp_of (cCons_of rfl (cCons_of rfl (cCons_of rfl (cCons1 rfl)))) (nD_of e1 rfl)) (cCons1 rfl)) (nD_of hal rfl)) ⟨[], by simp⟩
  refine Ev.seq (Ev.setN (d := eON none) (S' := S) rfl ?_)
  refine Ev.seq (Ev.for_ (S' := S) (fun n : Nat => .int (n : Nat)) (fun ks ρ S' => S' = S ∧ ∃ (j : Nat) (x6 x7 : Option D), ks = List.range' j (min 60 top + 1 - j) ∧ j ≤ min 60 top + 1 ∧ ρ = [some (eB b), some (.int s), some (eO o), some (.int many), some (.int top), some (eON none), x6, x7] ∧ (∀ m', m' < j → ¬ Safe b (.ord o) none many s m') ∧ ∀ m', m' < j → Few b (.ord o) none (s, rep m' b.T) many)
    (rng1 (n := min 60 top + 1) (by simp [sSeq, sSet, sRet, sExpr, sIf, gN, gT, gsCons, gsNil, cVar, cC, cBin, cUn, cNil, cCons, cApp, cB, cTr, cAnd, cOr, cNot, cV, cAndV, cOrV, cNotV, cIf, nD, mkTup, mkLst, mkBox, asQ, asL, negD, addD, subD, cmpD, isND, notND, eqD, neD, eqS, lenD, tupleD, DL.intD, cM, apnd, popM, sPar, sPar3, sNext, sAug, ipD, min2D, eON] <;> omega) (by omega)) rfl ⟨rfl, 0, none, none, by rw [List.range_eq_range', Nat.sub_zero], by omega, rfl, fun m' h => by omega, fun m' h => by omega⟩ ?_ ?_)
  · rintro m ks ρ S' ⟨rfl, j, x6, x7, hk, hj, rfl, hb, hfw⟩
    obtain ⟨rfl, hlt, rfl⟩ := rng_at hk hj
    refine ⟨_, rfl, ?_⟩
    obtain ⟨d, e1, hL⟩ := lfewest_ok W h9 hpo hsz (rep_w hs m) hm (S := S')
    have z1 : (1 : Nat) ≤ sizeLine := by rw [sizeLine_eq]; omega
    refine Ev.seq (Ev.setN (d := d) (S' := S') (cApp_of (cCons_of rfl (cCons_of rfl (cCons_of (cBin_of (x := .tup [.int m]) (cApp_of (cCons1 rfl) (by simp only [mkTup, List.map_cons, List.map_nil, List.length_cons, List.length_nil, List.replicate, Nat.reduceSub, List.cons_append, List.nil_append, Nat.reduceAdd, Nat.zero_add, z1, if_true] <;> rfl)) (cBin_of rfl rfl ixB0) (repD_ok hT1 (by omega) _)) (cCons_of rfl (cCons_of rfl (cCons1 rfl)))))) (nD_of e1 rfl)) ?_)
    rcases hL with ⟨rfl, _⟩ | ⟨rfl, hn, hF, _⟩ | ⟨k, rfl, hk', hx, hbb, hF⟩
    · exact Ev.seq (Ev.ifT (S' := S') (by simp [sSeq, sSet, sRet, sExpr, sIf, gN, gT, gsCons, gsNil, cVar, cC, cBin, cUn, cNil, cCons, cApp, cB, cTr, cAnd, cOr, cNot, cV, cAndV, cOrV, cNotV, cIf, nD, mkTup, mkLst, mkBox, asQ, asL, negD, addD, subD, cmpD, isND, notND, eqD, neD, eqS, lenD, tupleD, DL.intD, cM, apnd, popM, sPar, sPar3, sNext, sAug, ipD]) (Ev.ret (d := .bl true) (S' := S') rfl ⟨[], by simp⟩))
    · refine Ev.seq (Ev.ifF (S' := S') (by simp [sSeq, sSet, sRet, sExpr, sIf, gN, gT, gsCons, gsNil, cVar, cC, cBin, cUn, cNil, cCons, cApp, cB, cTr, cAnd, cOr, cNot, cV, cAndV, cOrV, cNotV, cIf, nD, mkTup, mkLst, mkBox, asQ, asL, negD, addD, subD, cmpD, isND, notND, eqD, neD, eqS, lenD, tupleD, DL.intD, cM, apnd, popM, sPar, sPar3, sNext, sAug, ipD]) (Ev.next ?_))
      refine Ev.ifT (S' := S') (by simp [sSeq, sSet, sRet, sExpr, sIf, gN, gT, gsCons, gsNil, cVar, cC, cBin, cUn, cNil, cCons, cApp, cB, cTr, cAnd, cOr, cNot, cV, cAndV, cOrV, cNotV, cIf, nD, mkTup, mkLst, mkBox, asQ, asL, negD, addD, subD, cmpD, isND, notND, eqD, neD, eqS, lenD, tupleD, DL.intD, cM, apnd, popM, sPar, sPar3, sNext, sAug, ipD]) (Ev.seq (Ev.setN (d := eON (some m)) (S' := S') rfl (Ev.brk ?_)))
      refine fin (some m) _ _ ⟨by omega, hn, hb⟩ fun m' hm' hbm => ?_
      rcases Nat.lt_trichotomy m' m with h | h | h
      · exact hfw m' h
      · subst h; exact hF
      · exact absurd hn (hbm m h)
    · refine Ev.seq (Ev.ifF (S' := S') (by simp [sSeq, sSet, sRet, sExpr, sIf, gN, gT, gsCons, gsNil, cVar, cC, cBin, cUn, cNil, cCons, cApp, cB, cTr, cAnd, cOr, cNot, cV, cAndV, cOrV, cNotV, cIf, nD, mkTup, mkLst, mkBox, asQ, asL, negD, addD, subD, cmpD, isND, notND, eqD, neD, eqS, lenD, tupleD, DL.intD, cM, apnd, popM, sPar, sPar3, sNext, sAug, ipD]; omega) (Ev.next ?_))
      refine Ev.ifF (S' := S') (by simp [sSeq, sSet, sRet, sExpr, sIf, gN, gT, gsCons, gsNil, cVar, cC, cBin, cUn, cNil, cCons, cApp, cB, cTr, cAnd, cOr, cNot, cV, cAndV, cOrV, cNotV, cIf, nD, mkTup, mkLst, mkBox, asQ, asL, negD, addD, subD, cmpD, isND, notND, eqD, neD, eqS, lenD, tupleD, DL.intD, cM, apnd, popM, sPar, sPar3, sNext, sAug, ipD]) (Ev.next ⟨rfl, m + 1, _, _, rfl, hlt, rfl, fun m' hm' => ?_, fun m' hm' => ?_⟩)
      · by_cases hmm : m' < m
        · exact hb m' hmm
        · have : m' = m := by omega
          subst this
          intro z
          obtain ⟨p, hr, he⟩ := hx
          have := z k hk' p hr
          rw [he] at this
          cases this
      · by_cases hmm : m' < m
        · exact hfw m' hmm
        · have : m' = m := by omega
          subst this
          exact hF
  · rintro ρ S' ⟨rfl, j, x6, x7, hk, hj, rfl, hb, hfw⟩
    have hj' := rng_end hk hj
    have h60 : 60 ≤ top := by
      rcases htop with h | h
      · exact h
      · by_cases hl : 60 ≤ top
        · exact hl
        · exact absurd h (hb top (by omega))
    refine fin none _ _ ⟨h60, fun m hm => hb m (by omega)⟩ fun m hm _ => hfw m (by omega)
/-- high enough: never dry within so many moves -/
theorem low_R {b : Bk} (W : WB b) {q : Pol} (ho : polOk b q) {w : Nat} (hp : ∀ s ∈ b.sts, ∀ v ∈ s.2, ∀ x ∈ v.p, -(w : Int) ≤ x) {s m : Nat} (hs : s < b.sts.length) {j : Nat} {p : Plc} (h : G.R (scQ b q none) (s, rep m b.T) j p) : PlW b p ∧ ∀ t, t < b.T → (m : Int) - w * j ≤ gt p.2 t := by
  have hsz : szOk b none := fun y e => by cases e
  induction h with
  | zero =>
    refine ⟨rep_w hs m, fun t ht => ?_⟩
    have : gt (rep m b.T) t = m := by simp [gt, List.getD, ht]
    show (m : Int) - w * (0 : Nat) ≤ gt (rep m b.T) t
    rw [this]
    simp
  | @succ k y r n hr e ih =>
    obtain ⟨h1, h2, h3⟩ := sc_mem e
    simp only at h3
    subst h3
    obtain ⟨hy, hl⟩ := ih
    refine ⟨nx_w W ho hsz hy h1, fun t ht => ?_⟩
    have hnl := numsG_lt (pkQ_ok ho) hy h1
    have hlen : (mvA b y.1 n).p.length = b.T := mvA_p W hnl
    have e1 : gt (nx b none y n).2 t = gt y.2 t + gt (mvA b y.1 n).p t := tcol hy.l hlen ht
    have hmem : mvA b y.1 n ∈ mvs b y.1 := List.mem_of_getElem? (mvA_at hnl)
    obtain ⟨x, hx, hmx⟩ := mvs_mem hmem
    have h4 : -(w : Int) ≤ gt (mvA b y.1 n).p t := by
      refine hp x hx _ hmx _ ?_
      have ht' : t < (mvA b y.1 n).p.length := by omega
      have : gt (mvA b y.1 n).p t = (mvA b y.1 n).p[t] := by simp [gt, List.getD, ht']
      rw [this]
      exact List.getElem_mem ht'
    have h5 := hl t ht
    rw [e1]
    have h6 : (w : Int) * ((k + 1 : Nat) : Int) = w * k + w := by
      rw [Int.natCast_add, Int.mul_add]
      simp
    omega
theorem safe_of {b : Bk} (W : WB b) {q : Pol} (ho : polOk b q) {w : Nat} (hp : ∀ s ∈ b.sts, ∀ v ∈ s.2, ∀ x ∈ v.p, -(w : Int) ≤ x) {s m many : Nat} (hs : s < b.sts.length) (hm : w * many ≤ m) : Safe b q none many s m := by
  intro j hj p hr
  obtain ⟨hy, hl⟩ := low_R W ho hp hs hr
  unfold exQ
  rw [← Bool.not_eq_true, List.any_eq_true]
  rintro ⟨n, hn, hd⟩
  have hnl := numsG_lt (pkQ_ok ho) hy hn
  have hlen := mvA_p W hnl
  obtain ⟨t, ht, hneg⟩ := dry_iff.mp hd
  rw [aft_len W hy hnl] at ht
  have e1 : gt (aft b p n) t = gt p.2 t + gt (mvA b p.1 n).p t := tcol hy.l hlen ht
  have hmem : mvA b p.1 n ∈ mvs b p.1 := List.mem_of_getElem? (mvA_at hnl)
  obtain ⟨x, hx, hmx⟩ := mvs_mem hmem
  have h4 : -(w : Int) ≤ gt (mvA b p.1 n).p t := by
    refine hp x hx _ hmx _ ?_
    have ht' : t < (mvA b p.1 n).p.length := by omega
    have : gt (mvA b p.1 n).p t = (mvA b p.1 n).p[t] := by simp [gt, List.getD, ht']
    rw [this]
    exact List.getElem_mem ht'
  have h5 := hl t ht
  rw [e1] at hneg
  have h6 : (w : Int) * j + w ≤ (w : Int) * many := by
    have : (w : Int) * ((j + 1 : Nat) : Int) ≤ w * many := Int.mul_le_mul_of_nonneg_left (by omega) (by omega)
    rw [Int.natCast_add, Int.mul_add] at this
    simpa using this
  have h7 : (w : Int) * many ≤ m := by
    have : ((w * many : Nat) : Int) ≤ m := by omega
    rwa [Int.natCast_mul] at this
  omega
end K84

/-! k84: what is asked of a drawn book. -/
namespace K84
open PySem PySem.Spec PyProof.Rows L2 DL BK

/-- a comprehension that draws levels -/
theorem draw_ok {F c : Cell} {T : Store} {ρ : Env'} {nm : Str} {m i n : Nat} {ci : DI} (h : Sp F c) (hn : spN nm) (hm : 0 < m) (hnn : n ≤ 100000) (hc : ∀ (c : Cell), cVar 0 (wipeD ρ [i]) (F :: c :: T) = some (.ref 1, F :: c :: T)) (h0 : ∀ (c : Cell) (k : Nat), cVar 0 ((wipeD ρ [i]).set i (some (.int k))) (F :: c :: T) = some (.ref 1, F :: c :: T))
    (hi : ci ρ (F :: c :: T) = some (((List.range n).map (fun i => D.int (i : Nat)), none), F :: c :: T)) :
    ∃ (l : Lv) (c' : Cell), cApp tupleD (cCons (cLC [i] false ci (lt1 (gN i) tYesD (cApp (nD 3 f__law_wont) (cCons (cVar 0) (cCons (cC (.str nm)) (cCons (cC (.int m)) cNil)))))) cNil) ρ (F :: c :: T) = some (eL l, F :: c' :: T) ∧ Sp F c' ∧ l.length = n ∧ ∀ x ∈ l, 0 ≤ x ∧ x < m := by
  obtain ⟨acc, S', e, c', l, rfl, rfl, hs, hl, hb⟩ := cLC_inv (α := Nat) (S := F :: c :: T) (ρ := ρ) (vs := [i]) (ci := ci) (g := gN i) (e := cApp (nD 3 f__law_wont) (cCons (cVar 0) (cCons (cC (.str nm)) (cCons (cC (.int m)) cNil)))) (fun k : Nat => .int (k : Nat))
    (fun ks acc S => ∃ (c' : Cell) (l : Lv), acc = l.map D.int ∧ S = F :: c' :: T ∧ Sp F c' ∧ l.length + ks.length = n ∧ ∀ x ∈ l, 0 ≤ x ∧ x < m) hi rfl ⟨c, [], rfl, rfl, h, by simp, by simp⟩ (fun k ks acc S ⟨c1, l, ea, es, s1, hl, hb⟩ => by
      subst ea es
      obtain ⟨d, c2, e2, s2, v, rfl, hv⟩ := wont_ok (T := T) (n := nm) (m := m) s1 hn (by omega)
      refine ⟨_, rfl, .int v, _, cApp_of (cCons_of (h0 _ _) (cCons_of rfl (cCons1 rfl))) (nD_of e2 rfl), c2, l ++ [(v : Int)], by simp, rfl, s2, by simp only [List.length_append, List.length_cons, List.length_nil] at hl ⊢; omega, fun x hx => ?_⟩
      rcases List.mem_append.mp hx with hx | hx
      · exact hb x hx
      · rw [List.mem_singleton.mp hx]
        omega) (fun acc S ⟨c1, l, ea, _, _, hl, _⟩ => by
      rw [ea, List.length_map]
      simp at hl
      exact small (by omega))
  have hl' : l.length = n := by simpa using hl
  exact ⟨l, c', cApp_of (cCons1 e) (by simp [tupleD, asQ, asL, eL]), hs, hl', hb⟩
theorem asked_ok {F c : Cell} {b : Bk} {T n m most : Nat} (h : Sp F c) (D : DB b T n 3 m) (hn : 1 ≤ n) (hm9 : m ≤ 9) (hmost : most ≤ 8) : SpF f__law_asked [.ref 1, eB b, .int most] F c [] fun d => d = .bl true := by
  have W := D.wb
  have hT := W.t2
  have h9 : ∀ s, (mvs b s).length ≤ 9 := fun s => by
    unfold mvs
    split
    · rename_i x hx
      exact Nat.le_trans (D.m x (List.mem_of_getElem? hx)) hm9
    · simp
  have hbn : b.sts.length = n := D.n
  refine spF_ev ?_
  unfold c__law_asked
  obtain ⟨d1, c1, e1, s1, o, rfl, ho⟩ := order_ok W h
  have hpo : polOk b (.ord o) := ho
  have hsz : szOk b none := fun y e => by cases e
  refine Ev.seq (Ev.setN (d := eO o) (S' := [F, c1]) (cApp_of (cCons_of rfl (cCons1 rfl)) (nD_of e1 rfl)) ?_)
  obtain ⟨d2, c2, e2, s2, s, rfl, hs⟩ := roll_ok (T := []) (m := n) s1 (by omega)
  refine Ev.seq (Ev.setN (d := .int s) (S' := [F, c2]) (by simp [sSeq, sSet, sRet, sExpr, sIf, gN, gT, gsCons, gsNil, cVar, cC, cBin, cUn, cNil, cCons, cApp, cB, cTr, cAnd, cOr, cNot, cV, cAndV, cOrV, cNotV, cIf, nD, mkTup, mkLst, mkBox, asQ, asL, negD, addD, subD, cmpD, isND, notND, eqD, neD, eqS, lenD, tupleD, DL.intD, cM, apnd, popM, sPar, sPar3, sNext, sAug, ipD, ixB1, hbn, e2]) ?_)
  have hs' : s < b.sts.length := by omega
  refine Ev.seq (Ev.for_ (S' := [F, c2]) (fun k : Nat => .int (k : Nat)) (fun ks ρ S => ∃ (c' : Cell) (x5 x6 : Option DL.D), S = [F, c'] ∧ Sp F c' ∧ ρ = [some (.ref 1), some (eB b), some (.int most), some (eO o), some (.int s), x5, x6, none, none, none] ∧ (ks.length < 3 → ∃ l : Lv, x6 = some (eL l) ∧ l.length = b.T))
    (rng1 (n := 3) rfl (by omega)) rfl ⟨c2, none, none, rfl, s2, rfl, fun h => by simp at h⟩ ?_ ?_)
  · rintro k ks ρ S ⟨c3, x5, x6, rfl, s3, rfl, _⟩
    refine ⟨_, rfl, ?_⟩
    obtain ⟨l, c4, e4, s4, hl, _⟩ := draw_ok (T := []) (ρ := [some (.ref 1), some (eB b), some (.int most), some (eO o), some (.int s), some (.int k), x6, none, none, none]) (nm := "level") (m := 5) (i := 9) (n := b.T) (ci := cRng1 (cBin ixD (cVar 1) (cC (.int 0)))) s3 (by decide +kernel) (by omega) (by omega) (fun _ => rfl) (fun _ _ => rfl) (rng1 (n := b.T) (cBin_of rfl rfl ixB0) (by omega))
    refine Ev.seq (Ev.setN (d := eL l) (S' := [F, c4]) (by exact e4) ?_)
    obtain ⟨d5, c5, e5, s5, v, rfl, hv⟩ := roll_ok (T := []) (m := ((most + 1 : Nat) : Int)) s4 (by omega)
    have hb := lbeaten_ok W h9 ho (st := (s, l)) ⟨hs', hl⟩ (most := v) (by omega) (S := [F, c5])
    refine Ev.ifF (S' := [F, c5]) ?_ (Ev.next ⟨c5, _, _, rfl, s5, rfl, fun _ => ⟨l, rfl, hl⟩⟩)
    have e5' : cApp (nD 2 f__law_roll) (cCons (cVar 0) (cCons (cBin addD (cVar 2) (cC (.int 1))) cNil)) [some (.ref 1), some (eB b), some (.int most), some (eO o), some (.int s), some (.int k), some (eL l), none, none, none] [F, c4] = some (.int v, [F, c5]) := cApp_of (cCons_of rfl (cCons1 rfl)) (nD_of e5 rfl)
    have : cB (cApp (nD 5 f__law_beaten) (cCons (cVar 1) (cCons (cVar 4) (cCons (cVar 6) (cCons (cVar 3) (cCons (cApp (nD 2 f__law_roll) (cCons (cVar 0) (cCons (cBin addD (cVar 2) (cC (.int 1))) cNil))) cNil)))))) [some (.ref 1), some (eB b), some (.int most), some (eO o), some (.int s), some (.int k), some (eL l), none, none, none] [F, c4] = some (true, [F, c5]) :=
      cB_of (cApp_of (cCons_of rfl (cCons_of rfl (cCons_of rfl (cCons_of rfl (cCons1 e5'))))) (nD_of hb rfl))
    show cNot _ [some (.ref 1), some (eB b), some (.int most), some (eO o), some (.int s), some (.int k), some (eL l), none, none, none] [F, c4] = _
    unfold cNot
    rw [this]
    rfl
  · rintro ρ S ⟨c3, x5, x6, rfl, s3, rfl, hx⟩
    obtain ⟨l, rfl, hl⟩ := hx (by simp)
    have hst : PlW b (s, l) := ⟨hs', hl⟩
    obtain ⟨d, e1, hL⟩ := lfewest_ok W h9 hpo hsz hst (most := most) (by omega) (S := [F, c3])
    refine Ev.seq (Ev.setN (d := d) (S' := [F, c3]) (cApp_of (cCons_of rfl (cCons_of rfl (cCons_of rfl (cCons_of rfl (cCons_of rfl (cCons1 rfl)))))) (nD_of e1 rfl)) ?_)
    -- the last part
    have fin : ∀ d : DL.D, Ev (sSeq (sSet (gN 8) (cApp (nD 2 f__law_roll) (cCons (cVar 0) (cCons (cBin addD (cC (.int 1)) (cBin fdivD (cVar 2) (cC (.int 2)))) cNil))))
        (sRet (cApp (nD 5 f__law_enough) (cCons (cVar 1) (cCons (cVar 4) (cCons (cVar 3) (cCons (cVar 8) (cCons (cBin mulD (cC (.int 3)) (cVar 8)) cNil))))))))
        [some (.ref 1), some (eB b), some (.int most), some (eO o), some (.int s), x5, some (eL l), some d, none, none] [F, c3] (fun f => ∃ d c' T2, f = .rt d (F :: c' :: ([] ++ T2)) ∧ Sp F c' ∧ below 0 d = true ∧ d = .bl true) := by
      intro d
      obtain ⟨d5, c5, e5, s5, v, rfl, hv⟩ := roll_ok (T := []) (m := ((1 + most / 2 : Nat) : Int)) s3 (by omega)
      have e5' : f__law_roll [.ref 1, .int (1 + (most : Int) / 2)] [F, c3] = some (.int v, [F, c5]) := by
        rw [← e5]
        congr 1
      refine Ev.seq (Ev.setN (d := .int v) (S' := [F, c5]) (cApp_of (cCons_of rfl (cCons1 (cBin_of rfl (cBin_of rfl rfl (fdiv_s (by omega) (by omega))) rfl))) (nD_of e5' rfl)) ?_)
      have hen := enough_ok W h9 ho hs' (many := v) (top := 3 * v) (by omega) (.inr (safe_of W hpo (w := 3) (fun s hs u hu x hx => (D.p s hs u hu x hx).1) hs' (Nat.le_refl _))) (S := [F, c5])
      have h3 : ((3 * v : Nat) : Int) = 3 * (v : Int) := by omega
      rw [h3] at hen
      exact Ev.ret (d := .bl true) (S' := [F, c5]) (cApp_of (cCons_of rfl (cCons_of rfl (cCons_of rfl (cCons_of rfl (cCons1 (cBin_of rfl rfl (mul_l (by omega) (by omega)))))))) (nD_of hen rfl)) ⟨_, _, [], rfl, s5, rfl, rfl⟩
    rcases hL with ⟨rfl, _⟩ | ⟨rfl, hn', hF, _⟩ | ⟨k, rfl, hk', hx', hbb, hF⟩
    · exact Ev.seq (Ev.ifF (S' := [F, c3]) (by simp [sSeq, sSet, sRet, sExpr, sIf, gN, gT, gsCons, gsNil, cVar, cC, cBin, cUn, cNil, cCons, cApp, cB, cTr, cAnd, cOr, cNot, cV, cAndV, cOrV, cNotV, cIf, nD, mkTup, mkLst, mkBox, asQ, asL, negD, addD, subD, cmpD, isND, notND, eqD, neD, eqS, lenD, tupleD, DL.intD, cM, apnd, popM, sPar, sPar3, sNext, sAug, ipD]) (Ev.next (fin _)))
    · exact Ev.seq (Ev.ifF (S' := [F, c3]) (by simp [sSeq, sSet, sRet, sExpr, sIf, gN, gT, gsCons, gsNil, cVar, cC, cBin, cUn, cNil, cCons, cApp, cB, cTr, cAnd, cOr, cNot, cV, cAndV, cOrV, cNotV, cIf, nD, mkTup, mkLst, mkBox, asQ, asL, negD, addD, subD, cmpD, isND, notND, eqD, neD, eqS, lenD, tupleD, DL.intD, cM, apnd, popM, sPar, sPar3, sNext, sAug, ipD]) (Ev.next (fin _)))
    · refine Ev.seq (Ev.ifT (S' := [F, c3]) (by simp [sSeq, sSet, sRet, sExpr, sIf, gN, gT, gsCons, gsNil, cVar, cC, cBin, cUn, cNil, cCons, cApp, cB, cTr, cAnd, cOr, cNot, cV, cAndV, cOrV, cNotV, cIf, nD, mkTup, mkLst, mkBox, asQ, asL, negD, addD, subD, cmpD, isND, notND, eqD, neD, eqS, lenD, tupleD, DL.intD, cM, apnd, popM, sPar, sPar3, sNext, sAug, ipD] <;> omega) ?_)
      have hb1 := lbeaten_ok W h9 ho hst (most := k + 1) (by omega) (S := [F, c3])
      have hb2 := lbeaten_ok W h9 ho hst (most := k) (by omega) (S := [F, c3])
      refine Ev.ifF (S' := [F, c3]) ?_ (Ev.next (fin _))
      have a1 : cB (cApp (nD 5 f__law_beaten) (cCons (cVar 1) (cCons (cVar 4) (cCons (cVar 6) (cCons (cVar 3) (cCons (cVar 7) cNil)))))) [some (.ref 1), some (eB b), some (.int most), some (eO o), some (.int s), x5, some (eL l), some (.int ((k + 1 : Nat) : Int)), none, none] [F, c3] = some (true, [F, c3]) :=
        cB_of (cApp_of (cCons_of rfl (cCons_of rfl (cCons_of rfl (cCons_of rfl (cCons1 rfl))))) (nD_of hb1 rfl))
      have hk1 : ((k + 1 : Nat) : Int) - 1 = k := by omega
      have a2 : cB (cApp (nD 5 f__law_beaten) (cCons (cVar 1) (cCons (cVar 4) (cCons (cVar 6) (cCons (cVar 3) (cCons (cBin subD (cVar 7) (cC (.int 1))) cNil)))))) [some (.ref 1), some (eB b), some (.int most), some (eO o), some (.int s), x5, some (eL l), some (.int ((k + 1 : Nat) : Int)), none, none] [F, c3] = some (true, [F, c3]) :=
        cB_of (cApp_of (cCons_of rfl (cCons_of rfl (cCons_of rfl (cCons_of rfl (cCons1 (cBin_of (y := .int 1) rfl rfl (show subD (.int ((k + 1 : Nat) : Int)) (.int 1) _ = some (.int k, [F, c3]) by simp only [subD, hk1]))))))) (nD_of hb2 rfl))
      exact cOr_f (cNot_of a1) (cNot_of a2)
end K84

/-! k84: rules. -/
namespace K84
open PySem PySem.Spec PyProof.Rows L2 DL BK

theorem R_box {b : Bk} (W : WB b) {q : Pol} (ho : polOk b q) {y : Lv} (hsz : szOk b (some y)) {st : Plc} (hst : PlW b st) (hb : inBx y st.2) {k : Nat} {p : Plc} (h : G.R (scQ b q (some y)) st k p) : PlW b p ∧ inBx y p.2 := by
  have hyl := (hsz y rfl).1
  induction h with
  | zero => exact ⟨hst, hb⟩
  | @succ k u r n hr e ih =>
    obtain ⟨h1, h2, h3⟩ := sc_mem e
    simp only at h3
    subst h3
    obtain ⟨hu, hbx⟩ := ih
    have hw := nx_w W ho hsz hu h1
    have hnl := numsG_lt (pkQ_ok ho) hu h1
    have hal : (aft b u n).length = b.T := aft_len W hu hnl
    have h2' : dry (aft b u n) = false := h2
    refine ⟨hw, by rw [hw.l, hyl], fun t ht => ?_⟩
    have e1 : gt (nx b (some y) u n).2 t = min (gt (aft b u n) t) (gt y t) := spl_at (by rw [hyl, hal]) (by rw [hal, ← hyl]; exact ht)
    have h4 := dry_false.mp h2' t (by rw [hal, ← hyl]; exact ht)
    have h5 := (hsz y rfl).2 t ht
    rw [e1]
    omega
theorem run_grow {b : Bk} {q : Pol} {z : Sz} {st : Plc} : ∀ {k : Nat}, quiet b q z st k → (runQ b q z st k).2 ≠ [] → k + 1 ≤ (runQ b q z st k).1.length
  | 0, _, _ => by simp [runQ]
  | k + 1, hq, hne => by
    have hq' : quiet b q z st k := fun j hj => hq j (by omega)
    have B := run_bi hq'
    have hne' : (runQ b q z st k).2 ≠ [] := fun h => by
      have := run_nil h 1
      rw [this] at hne
      exact hne h
    have h1 := run_grow hq' hne'
    have L := G.layr_li (sc := scQ b q z) (layer := (runQ b q z st k).2) B.nd
    obtain ⟨d, e1, e2⟩ := L.app
    have e1' : (runQ b q z st (k + 1)).1 = (runQ b q z st k).1 ++ d := e1
    have e2' : G.keys d = (runQ b q z st (k + 1)).2 := e2
    have h2 : 0 < d.length := by
      rw [← keys_len, e2']
      exact List.length_pos_iff.mpr hne
    rw [e1', List.length_append]
    omega
theorem lres_rule {b : Bk} {q : Pol} {z : Sz} {st : Plc} {d : D} {U : List Plc} (hU : ∀ k p, G.R (scQ b q z) st k p → p ∈ U) (hUl : U.length ≤ 392) (h : LRes b q z st 400 d) :
    (d = .non ∧ ∀ j p, G.R (scQ b q z) st j p → exQ b q p = false) ∨ (∃ k, d = .int ((k + 1 : Nat) : Int) ∧ k < 400 ∧ (∃ p, G.R (scQ b q z) st k p ∧ exQ b q p = true) ∧ ∀ j, j < k → ∀ p, G.R (scQ b q z) st j p → exQ b q p = false) := by
  have small : ∀ k, quiet b q z st k → (runQ b q z st k).1.length ≤ 392 := fun k hq => by
    have B := run_bi hq
    have := G.nodup_le (G.keys (runQ b q z st k).1) U B.nd fun p hp => let ⟨n, _, h⟩ := B.key p hp; hU n p h
    rw [keys_len] at this
    omega
  rcases h with ⟨_, k, hk, hq, hl⟩ | ⟨rfl, hn, hF, k, hk, hq, hkk⟩ | ⟨k, rfl, hk', hx, hbb, hF⟩
  · have := small k hq
    omega
  · refine .inl ⟨rfl, fun j p hr => ?_⟩
    have hnil : (runQ b q z st k).2 = [] := by
      rcases hkk with h | h
      · exact h
      · subst h
        exact Classical.byContradiction fun hne => by
          have h1 := run_grow hq hne
          have h2 := small _ hq
          omega
    have B := run_bi hq
    rw [hnil] at B
    exact (B.closed hr).2
  · exact .inr ⟨k, rfl, hk', hx, hbb⟩
theorem rul_at {v : Nat} (h : v < 3) : ∃ r : Rul, ∀ S : Store, ixD (.tup [.str "first", .str "highest", .str "even"]) (.int v) S = some (.str (eR r), S) := by
  have : v = 0 ∨ v = 1 ∨ v = 2 := by omega
  rcases this with rfl | rfl | rfl
  · exact ⟨.first, fun _ => rfl⟩
  · exact ⟨.highest, fun _ => rfl⟩
  · exact ⟨.even, fun _ => rfl⟩
/-- a book's rule asked at a place, with sizes -/
theorem rules_at {b : Bk} (W : WB b) (h9 : ∀ s, (mvs b s).length ≤ 9) {r : Rul} {y : Lv} (hsz : szOk b (some y)) {st : Plc} (hst : PlW b st) (hb : inBx y st.2) (hU : (ubx b.sts.length y).length ≤ 392) {S : Store} :
    ∃ (d : D) (o : Option (List Nat)), f__law_fewest [eB b, .int st.1, eL st.2, .str (eR r), .int 400, eL y] S = some (d, S) ∧ f_rule_dries [eB b, .int st.1, eL st.2, eL y, .str (eR r)] S = some (eF o, S) ∧ f_rule_keeps [eB b, .int st.1, eL st.2, eL y, .str (eR r)] S = some (.bl (decide (o = none)), S) ∧
      ((d = .non ∧ o = none) ∨ ∃ (k : Nat) (pl : List Nat), d = .int ((k + 1 : Nat) : Int) ∧ o = some pl ∧ f__law_right [eB b, .int st.1, eL st.2, .str (eR r), eN pl, .int ((k + 1 : Nat) : Int), eL y] S = some (.bl true, S)) := by
  have hpo : polOk b (.rul r) := trivial
  have hR : ∀ k p, G.R (scQ b (.rul r) (some y)) st k p → p ∈ ubx b.sts.length y := fun k p hr => by
    obtain ⟨h1, h2⟩ := R_box W hpo hsz hst hb hr
    exact mem_ubx h1.s h2
  obtain ⟨d, e1, hL⟩ := lfewest_ok W h9 hpo hsz hst (most := 400) (by omega) (S := S)
  obtain ⟨o, e2, hf, e3⟩ := keeps_ok W h9 hsz hst hR (by omega) (S := S)
  refine ⟨d, o, e1, e2, e3, ?_⟩
  rcases lres_rule hR hU hL with ⟨rfl, hn⟩ | ⟨k, rfl, hk, hx, hbb⟩
  · left
    refine ⟨rfl, ?_⟩
    cases o with
    | none => rfl
    | some pl =>
      obtain ⟨ns, n, p, h1, h2, h3, h4, h5, h6⟩ := hf
      have := hn _ p h3.r
      unfold exQ at this
      rw [← Bool.not_eq_true, List.any_eq_true] at this
      exact absurd ⟨n, h4, h5⟩ this
  · right
    cases o with
    | none =>
      obtain ⟨p, hr, he⟩ := hx
      have := hf k p hr
      rw [he] at this
      cases this
    | some pl =>
      obtain ⟨ns, n, p, rfl, h2, h3, h4, h5⟩ := fnd_len hf hx hbb
      have := lright_ok W hpo hsz hst h3 h4 h5 (by omega) (S := S)
      rw [h2] at this
      exact ⟨k, ns ++ [n], rfl, rfl, this⟩
theorem rules_ok {F c : Cell} {b : Bk} {T n m : Nat} (h : Sp F c) (D : DB b T n 3 m) (hT : T = 1 ∨ T = 2) (hn : 1 ≤ n) (hn4 : n ≤ 4) (hm9 : m ≤ 9) : SpF f__law_rules [.ref 1, eB b] F c [] fun d => d = .bl true := by
  have W := D.wb
  have hbT : b.T = T := D.t
  have h9 : ∀ s, (mvs b s).length ≤ 9 := fun s => by
    unfold mvs
    split
    · rename_i x hx
      exact Nat.le_trans (D.m x (List.mem_of_getElem? hx)) hm9
    · simp
  have hbn : b.sts.length = n := D.n
  have z3 : (3 : Nat) ≤ sizeLine := by rw [sizeLine_eq]; omega
  refine spF_ev ?_
  unfold c__law_rules
  obtain ⟨d1, c1, e1, s1, v1, rfl, hv1⟩ := roll_ok (T := []) (m := 3) h (by omega)
  obtain ⟨r, hr⟩ := rul_at (v := v1) (by omega)
  refine Ev.seq (Ev.setN (d := .str (eR r)) (S' := [F, c1]) (cBin_of (cApp_of (cCons_of rfl (cCons_of rfl (cCons1 rfl))) (by simp only [mkTup, List.map_cons, List.map_nil, List.length_cons, List.length_nil, List.replicate, Nat.reduceSub, List.cons_append, List.nil_append, Nat.reduceAdd, Nat.zero_add, z3, if_true] <;> rfl)) (cApp_of (cCons_of rfl (cCons1 rfl)) (nD_of e1 rfl)) (hr _)) ?_)
  -- sizes
  have hm7 : ∃ m7 : Nat, (∀ S : Store, ∀ x2 x3 x4 x5 x6 x7 x8 x9 x10 x11 x12 : Option DL.D, cIf (cB (cBin eqD (cBin ixD (cVar 1) (cC (.int 0))) (cC (.int 1)))) (cC (.int 7)) (cC (.int 4)) [some (.ref 1), some (eB b), x2, x3, x4, x5, x6, x7, x8, x9, x10, x11, x12] S = some (.int m7, S)) ∧ (T = 1 → m7 = 7) ∧ (T = 2 → m7 = 4) := by
    rcases hT with hT | hT
    · exact ⟨7, fun S _ _ _ _ _ _ _ _ _ _ _ => cIf_t (cB_of (cBin_of (cBin_of rfl rfl ixB0) rfl (by rw [hbT, hT]; rfl))) rfl, fun _ => rfl, fun z => by omega⟩
    · exact ⟨4, fun S _ _ _ _ _ _ _ _ _ _ _ => cIf_f (cB_of (cBin_of (cBin_of rfl rfl ixB0) rfl (by rw [hbT, hT]; rfl))) rfl, fun z => by omega, fun _ => rfl⟩
  obtain ⟨m7, hm7, hm71, hm72⟩ := hm7
  have hm0 : 0 < m7 := by rcases hT with hT | hT <;> omega
  obtain ⟨y, c2, e2, s2, hy⟩ := drawG (α := Nat) (T := []) (ρ := [some (.ref 1), some (eB b), some (.str (eR r)), none, none, none, none, none, none, none, none, none, none]) (i := 11) (ci := cRng1 (cBin ixD (cVar 1) (cC (.int 0)))) (e := cApp (nD 3 f__law_wont) (cCons (cVar 0) (cCons (cC (.str "size")) (cCons (cIf (cB (cBin eqD (cBin ixD (cVar 1) (cC (.int 0))) (cC (.int 1)))) (cC (.int 7)) (cC (.int 4))) cNil))))
    (l := List.range b.T) (en := fun k : Nat => .int (k : Nat)) (Q := fun _ v => 0 ≤ v ∧ v < (m7 : Int)) s1 (by simp; omega) (rng1 (n := b.T) (cBin_of rfl rfl ixB0) (by omega)) (fun k _ c hc => by
      obtain ⟨d, c', e, s', v, rfl, hv⟩ := wont_ok (T := []) (n := "size") (m := (m7 : Int)) hc (by decide +kernel) (by omega)
      exact ⟨v, c', cApp_of (cCons_of rfl (cCons_of rfl (cCons1 (hm7 _ _ _ _ _ _ _ _ _ _ _ _)))) (nD_of e rfl), s', by omega, hv⟩)
  have hyl : y.length = b.T := by rw [← paired_len hy]; simp
  have hyb : ∀ x ∈ y, 0 ≤ x ∧ x < (m7 : Int) := paired_mem (P := fun v => 0 ≤ v ∧ v < (m7 : Int)) (fun _ _ h => h) hy
  have hyt : ∀ t, t < y.length → 0 ≤ gt y t ∧ gt y t < (m7 : Int) := fun t ht => by
    have : gt y t = y[t] := by simp [gt, List.getD, ht]
    rw [this]
    exact hyb _ (List.getElem_mem ht)
  have hsz : szOk b (some y) := fun y' e => by cases e; exact ⟨hyl, fun t ht => (hyt t ht).1⟩
  have hUl : (ubx b.sts.length y).length ≤ 392 := by
    rw [ubx_len, hbn]
    have hbx : (bxs y).length ≤ 16 := by
      rcases hT with hT | hT
      · rw [hbT, hT] at hyl
        match y, hyl, hyb with
        | [a], _, hyb =>
          rw [bxs_len]
          have := hyb a (by simp)
          have := hm71 hT
          simp [bxs]
          omega
      · rw [hbT, hT] at hyl
        match y, hyl, hyb with
        | [a, a'], _, hyb =>
          rw [bxs_len, bxs_len]
          have h1 := hyb a (by simp)
          have h2 := hyb a' (by simp)
          have := hm72 hT
          have g1 : a.toNat + 1 ≤ 4 := by omega
          have g2 : a'.toNat + 1 ≤ 4 := by omega
          have := Nat.mul_le_mul g1 g2
          simp [bxs]
          omega
    have := Nat.mul_le_mul hn4 hbx
    omega
  refine Ev.seq (Ev.setN (d := eL y) (S' := [F, c2]) (by exact e2) ?_)
  refine Ev.seq (Ev.for_ (S' := [F, c2]) (fun k : Nat => .int (k : Nat)) (fun ks ρ S => ∃ (c' : Cell) (x4 x5 x6 x7 x8 x9 x10 : Option DL.D), S = [F, c'] ∧ Sp F c' ∧ ρ = [some (.ref 1), some (eB b), some (.str (eR r)), some (eL y), x4, x5, x6, x7, x8, x9, x10, none, none])
    (rng1 (n := 2) rfl (by omega)) rfl ⟨c2, _, _, _, _, _, _, _, rfl, s2, rfl⟩ ?_ ?_)
  · rintro k ks ρ S ⟨c3, x4, x5, x6, x7, x8, x9, x10, rfl, s3, rfl⟩
    refine ⟨_, rfl, ?_⟩
    obtain ⟨d4, c4, e4, s4, s, rfl, hs⟩ := roll_ok (T := []) (m := n) s3 (by omega)
    have hs' : s < b.sts.length := by omega
    refine Ev.seq (Ev.setN (d := .int s) (S' := [F, c4]) (by simp [sSeq, sSet, sRet, sExpr, sIf, gN, gT, gsCons, gsNil, cVar, cC, cBin, cUn, cNil, cCons, cApp, cB, cTr, cAnd, cOr, cNot, cV, cAndV, cOrV, cNotV, cIf, nD, mkTup, mkLst, mkBox, asQ, asL, negD, addD, subD, cmpD, isND, notND, eqD, neD, eqS, lenD, tupleD, DL.intD, cM, apnd, popM, sPar, sPar3, sNext, sAug, ipD, ixB1, hbn, e4]) ?_)
    obtain ⟨l, c5, e5, s5, hl⟩ := drawG (α := Int) (T := []) (ρ := [some (.ref 1), some (eB b), some (.str (eR r)), some (eL y), some (.int k), some (.int s), x6, x7, x8, x9, x10, none, none]) (i := 12) (ci := cItS (cVar 3)) (e := cApp (nD 2 f__law_roll) (cCons (cVar 0) (cCons (cBin addD (cVar 12) (cC (.int 1))) cNil)))
      (l := y) (en := DL.D.int) (Q := fun a v => 0 ≤ v ∧ v ≤ a) s4 (by omega) (by simp [cItS, cVar, eL, itSeq]) (fun a ha c hc => by
        have := hyb a ha
        obtain ⟨d, c', e, s', v, rfl, hv⟩ := roll_ok (T := []) (m := a + 1) hc (by omega)
        exact ⟨v, c', cApp_of (cCons_of rfl (cCons1 (cBin_of (x := .int a) rfl rfl rfl))) (nD_of e rfl), s', by omega, by omega⟩)
    have hll : l.length = b.T := by rw [← paired_len hl, hyl]
    have hbx : inBx y l := ⟨by rw [hll, hyl], fun t ht => paired_gt hl t ht⟩
    have hst : PlW b (s, l) := ⟨hs', hll⟩
    refine Ev.seq (Ev.setN (d := eL l) (S' := [F, c5]) (by exact e5) ?_)
    obtain ⟨x, hx, hmx, hox⟩ := ixSt hs'
    have exx : x = (own b s, mvs b s) := by rw [hmx, hox]
    subst exx
    refine Ev.seq (Ev.set (d := eS (own b s, mvs b s)) (S' := [F, c5]) (ρ' := [some (.ref 1), some (eB b), some (.str (eR r)), some (eL y), some (.int k), some (.int s), some (eL l), some (.str (own b s)), some (.tup ((mvs b s).map eM)), x9, x10, none, none]) (by simp [sSeq, sSet, sRet, sExpr, sIf, gN, gT, gsCons, gsNil, cVar, cC, cBin, cUn, cNil, cCons, cApp, cB, cTr, cAnd, cOr, cNot, cV, cAndV, cOrV, cNotV, cIf, nD, mkTup, mkLst, mkBox, asQ, asL, negD, addD, subD, cmpD, isND, notND, eqD, neD, eqS, lenD, tupleD, DL.intD, cM, apnd, popM, sPar, sPar3, sNext, sAug, ipD, ixB1, hx]) (by simp [gT, gsCons, gN, gsNil, eS]) ?_)
    have hal : f__law_alike [.int (pkR b r (s, l)), .int (pkR b r (s, l))] [F, c5] = some (.bl true, [F, c5]) := alike_ok 4 rfl
    have hrm := ruleMove_ok W (r := r) hst (S := [F, c5])
    have hlr := lruled_ok W (r := r) hst (S := [F, c5])
    refine Ev.seq (Ev.ifF (S' := [F, c5]) (by
      by_cases ho : own b s = "house"
      · refine cAnd_t (S1 := [F, c5]) (cB_of (c := true) (cBin_of rfl rfl (by simp [eqD, eqS, ho]))) ?_
        by_cases hm : 0 < (mvs b s).length
        · exact cAnd_t (S1 := [F, c5]) (cB_of (c := true) (cBin_of (cApp_of (cCons1 rfl) lenT) rfl (by simp [cmpD, hm]))) (cNot_of (c := true) (cB_of (cApp_of (cCons_of (cApp_of (cCons_of rfl (cCons_of rfl (cCons_of rfl (cCons1 rfl)))) (nD_of hrm rfl)) (cCons1 (cApp_of (cCons_of rfl (cCons_of rfl (cCons1 rfl))) (nD_of hlr rfl)))) (nD_of hal rfl))))
        · exact cAnd_f (cB_of (cBin_of (cApp_of (cCons1 rfl) lenT) rfl (by simp only [cmpD, List.length_map, show (mvs b s).length = 0 from by omega]; rfl)))
      · exact cAnd_f (cB_of (cBin_of rfl rfl (by simp [eqD, eqS, ho])))) (Ev.next ?_))
    obtain ⟨d, o, a1, a2, a3, a4⟩ := rules_at W h9 (r := r) hsz hst hbx hUl (S := [F, c5])
    refine Ev.seq (Ev.setN (d := d) (S' := [F, c5]) (cApp_of (cCons_of rfl (cCons_of rfl (cCons_of rfl (cCons_of rfl (cCons_of rfl (cCons1 rfl)))))) (nD_of a1 rfl)) ?_)
    have hdn : ∀ S : Store, isND d .non S = some (.bl (decide (o = none)), S) := fun S => by
      rcases a4 with ⟨rfl, rfl⟩ | ⟨k, pl, rfl, rfl, _⟩ <;> rfl
    have hal2 : f__law_alike [.bl (decide (o = none)), .bl (decide (o = none))] [F, c5] = some (.bl true, [F, c5]) := alike_ok 4 rfl
    refine Ev.seq (Ev.ifF (S' := [F, c5]) (cNot_of (c := true) (cB_of (cApp_of (cCons_of (cApp_of (cCons_of rfl (cCons_of rfl (cCons_of rfl (cCons_of rfl (cCons1 rfl))))) (nD_of a3 rfl)) (cCons1 (cBin_of rfl rfl (hdn _)))) (nD_of hal2 rfl)))) (Ev.next ?_))
    refine Ev.seq (Ev.setN (d := eF o) (S' := [F, c5]) (cApp_of (cCons_of rfl (cCons_of rfl (cCons_of rfl (cCons_of rfl (cCons1 rfl))))) (nD_of a2 rfl)) ?_)
    refine Ev.ifF (S' := [F, c5]) ?_ (Ev.next ⟨c5, _, _, _, _, _, _, _, rfl, s5, rfl⟩)
    rcases a4 with ⟨rfl, rfl⟩ | ⟨k, pl, rfl, rfl, a5⟩
    · exact cOr_f (cAnd_t (cB_of (cBin_of rfl rfl rfl)) (cB_of (cBin_of rfl rfl rfl))) (cAnd_f (cB_of (cBin_of rfl rfl rfl)))
    · exact cOr_f (cAnd_f (cB_of (cBin_of rfl rfl rfl))) (cAnd_t (cB_of (cBin_of rfl rfl rfl)) (cNot_of (c := true) (cB_of (cApp_of (cCons_of rfl (cCons_of rfl (cCons_of rfl (cCons_of rfl (cCons_of rfl (cCons_of rfl (cCons1 rfl))))))) (nD_of a5 rfl)))))
  · rintro ρ S ⟨c3, x4, x5, x6, x7, x8, x9, x10, rfl, s3, rfl⟩
    exact Ev.ret (d := .bl true) (S' := [F, c3]) rfl ⟨_, _, [], rfl, s3, rfl, rfl⟩
end K84

/-! k84: the pump's mathematics. -/
namespace K84
open PySem PySem.Spec PyProof.Rows L2 DL BK

def PB (d f : Nat) : Bk := ⟨2, [("outside", [⟨"a", [0 - (d : Int), 0], 1⟩, ⟨"b", [0, 0 - (d : Int)], 1⟩]), ("house", [⟨"x", [(f : Int), 0], 0⟩, ⟨"y", [0, (f : Int)], 0⟩])]⟩
def PO (fl : Nat) : List (List Nat) := [[], [fl, 1 - fl]]
theorem hne_oh : ¬ ("outside" : Str) = "house" := by decide +kernel
theorem pb_w (d f : Nat) : WB (PB d f) := by
  refine ⟨show 1 ≤ 2 by omega, show 2 ≤ 100 by omega, show 2 ≤ 1000 by omega, ?_, ?_, ?_, ?_⟩
  · intro s hs
    simp only [PB, List.mem_cons, List.not_mem_nil, or_false] at hs
    rcases hs with rfl | rfl <;> simp
  · intro s hs m hm
    simp only [PB, List.mem_cons, List.not_mem_nil, or_false] at hs
    rcases hs with rfl | rfl <;> · simp only [List.mem_cons, List.not_mem_nil, or_false] at hm; rcases hm with rfl | rfl <;> rfl
  · intro s hs m hm
    simp only [PB, List.mem_cons, List.not_mem_nil, or_false] at hs
    rcases hs with rfl | rfl <;> · simp only [List.mem_cons, List.not_mem_nil, or_false] at hm; rcases hm with rfl | rfl <;> simp [PB]
  · intro s hs
    simp only [PB, List.mem_cons, List.not_mem_nil, or_false] at hs
    rcases hs with rfl | rfl <;> simp
theorem pb_9 (d f s : Nat) : (mvs (PB d f) s).length ≤ 2 := by
  match s with
  | 0 => simp [mvs, PB]
  | 1 => simp [mvs, PB]
  | s + 2 => simp [mvs, PB]
theorem po_ok {d f fl : Nat} (h : fl < 2) : ordOk (PB d f) (PO fl) := by
  refine .cons ⟨fun z => ?_, by simp⟩ (.cons ⟨fun _ => rfl, fun k hk => ?_⟩ .nil)
  · exact absurd z hne_oh
  · show k < 2
    simp only [List.mem_cons, List.not_mem_nil, or_false] at hk
    omega
theorem pb_n0 {d f : Nat} {q : Pol} {l : Lv} : numsQ (PB d f) q (0, l) = [0, 1] := by
  have h1 : mvs (PB d f) 0 ≠ [] := by simp [mvs, PB]
  have h2 : ¬ own (PB d f) 0 = "house" := hne_oh
  show numsG _ _ _ = _
  unfold numsG
  rw [if_neg h1, if_neg h2]
  rfl
theorem pb_n1 {d f : Nat} {q : Pol} {l : Lv} : numsQ (PB d f) q (1, l) = [pkQ (PB d f) q (1, l)] := by
  have h1 : mvs (PB d f) 1 ≠ [] := by simp [mvs, PB]
  have h2 : own (PB d f) 1 = "house" := rfl
  show numsG _ _ _ = _
  unfold numsG
  rw [if_neg h1, if_pos h2]
theorem dry2 {x y : Int} : dry [x, y] = (decide (x < 0) || decide (y < 0)) := by simp [dry]
theorem dry2f {x y : Int} (h1 : 0 ≤ x) (h2 : 0 ≤ y) : dry [x, y] = false := by
  rw [dry2]
  simp
  omega
theorem pb_a00 {d f : Nat} {x y : Int} : aft (PB d f) (0, [x, y]) 0 = [x + (0 - d), y + 0] := rfl
theorem pb_a01 {d f : Nat} {x y : Int} : aft (PB d f) (0, [x, y]) 1 = [x + 0, y + (0 - d)] := rfl
theorem pb_a10 {d f : Nat} {x y : Int} : aft (PB d f) (1, [x, y]) 0 = [x + f, y + 0] := rfl
theorem pb_a11 {d f : Nat} {x y : Int} : aft (PB d f) (1, [x, y]) 1 = [x + 0, y + f] := rfl
theorem pb_t0 {d f n : Nat} (h : n < 2) : (mvA (PB d f) 0 n).to = 1 := by
  match n, h with
  | 0, _ => rfl
  | 1, _ => rfl
theorem pb_t1 {d f n : Nat} (h : n < 2) : (mvA (PB d f) 1 n).to = 0 := by
  match n, h with
  | 0, _ => rfl
  | 1, _ => rfl
theorem pb_pk {d f fl : Nat} (hfl : fl < 2) {x y : Int} (hx : 0 ≤ x) (hy : 0 ≤ y) : pkO (PB d f) (PO fl) (1, [x, y]) = fl := by
  have h : findO (PB d f) 1 [x, y] (rowA (PO fl) 1) = some fl := by
    have e : rowA (PO fl) 1 = [fl, 1 - fl] := rfl
    rw [e]
    have : dry (add [x, y] (mvA (PB d f) 1 fl).p) = false := by
      match fl, hfl with
      | 0, _ =>
        show dry [x + f, y + 0] = false
        exact dry2f (by omega) (by omega)
      | 1, _ =>
        show dry [x + 0, y + f] = false
        exact dry2f (by omega) (by omega)
    simp [findO, List.find?_cons, this]
  show (findO (PB d f) 1 [x, y] (rowA (PO fl) 1)).getD _ = fl
  rw [h]
  rfl
/-- what is reached by an order -/
def PInv (L d : Nat) (j : Nat) (p : Plc) : Prop := ∃ x y : Int, p.2 = [x, y] ∧ 0 ≤ x ∧ 0 ≤ y ∧ ∃ i : Nat, ((p.1 = 0 ∧ j = 2 * i ∧ (L : Int) - i * d ≤ x ∧ (L : Int) - i * d ≤ y) ∨ (p.1 = 1 ∧ j = 2 * i + 1 ∧ (L : Int) - (i + 1 : Nat) * d ≤ x ∧ (L : Int) - (i + 1 : Nat) * d ≤ y))
theorem mul1 (i d : Nat) : ((i + 1 : Nat) : Int) * d = i * d + d := by
  rw [Int.natCast_add, Int.add_mul]
  simp
theorem pinv_R {d f fl L : Nat} (hfl : fl < 2) {j : Nat} {p : Plc} (h : G.R (scQ (PB d f) (.ord (PO fl)) none) (0, [(L : Int), (L : Int)]) j p) : PInv L d j p := by
  induction h with
  | zero => exact ⟨L, L, rfl, by omega, by omega, 0, .inl ⟨rfl, rfl, by simp, by simp⟩⟩
  | @succ k u r n hr e ih =>
    obtain ⟨h1, h2, h3⟩ := sc_mem e
    simp only at h1 h2 h3
    obtain ⟨us, ul⟩ := u
    obtain ⟨x, y, rfl, hx, hy, i, hi⟩ := ih
    rcases hi with ⟨rfl, rfl, hi1, hi2⟩ | ⟨rfl, rfl, hi1, hi2⟩
    · rw [pb_n0] at h1
      simp only [List.mem_cons, List.not_mem_nil, or_false] at h1
      rcases h1 with rfl | rfl
      · rw [pb_a00, dry2] at h2
        simp only [Bool.or_eq_false_iff, decide_eq_false_iff_not] at h2
        refine ⟨x + (0 - d), y + 0, by rw [h3]; rfl, by omega, by omega, i, .inr ⟨by rw [h3]; rfl, rfl, ?_, ?_⟩⟩ <;> rw [mul1] <;> omega
      · rw [pb_a01, dry2] at h2
        simp only [Bool.or_eq_false_iff, decide_eq_false_iff_not] at h2
        refine ⟨x + 0, y + (0 - d), by rw [h3]; rfl, by omega, by omega, i, .inr ⟨by rw [h3]; rfl, rfl, ?_, ?_⟩⟩ <;> rw [mul1] <;> omega
    · rw [pb_n1] at h1
      have hpk : pkQ (PB d f) (.ord (PO fl)) (1, [x, y]) = fl := pb_pk hfl hx hy
      rw [hpk] at h1
      simp only [List.mem_cons, List.not_mem_nil, or_false] at h1
      subst h1
      match n, hfl with
      | 0, _ => exact ⟨x + f, y + 0, by rw [h3]; rfl, by omega, by omega, i + 1, .inl ⟨by rw [h3]; rfl, by omega, by omega, by omega⟩⟩
      | 1, _ => exact ⟨x + 0, y + f, by rw [h3]; rfl, by omega, by omega, i + 1, .inl ⟨by rw [h3]; rfl, by omega, by omega, by omega⟩⟩
theorem pump_no {d f fl L : Nat} (hd : 0 < d) (hfl : fl < 2) {j : Nat} (hj : j < 2 * (L / d)) {p : Plc} (h : G.R (scQ (PB d f) (.ord (PO fl)) none) (0, [(L : Int), (L : Int)]) j p) : exQ (PB d f) (.ord (PO fl)) p = false := by
  obtain ⟨ps, pl⟩ := p
  obtain ⟨x, y, rfl, hx, hy, i, hi⟩ := pinv_R hfl h
  unfold exQ
  rw [← Bool.not_eq_true, List.any_eq_true]
  rintro ⟨n, hn, hdr⟩
  rcases hi with ⟨rfl, rfl, hi1, hi2⟩ | ⟨rfl, rfl, hi1, hi2⟩
  · rw [pb_n0] at hn
    have hL : (i + 1) * d ≤ L := by
      have h1 : i + 1 ≤ L / d := by omega
      have h2 := Nat.mul_le_mul_right d h1
      have h3 := Nat.div_mul_le_self L d
      omega
    have hL' : ((i : Int) * d) + d ≤ L := by
      have : (((i + 1) * d : Nat) : Int) ≤ L := by omega
      rw [Int.natCast_mul, mul1] at this
      exact this
    simp only [List.mem_cons, List.not_mem_nil, or_false] at hn
    rcases hn with rfl | rfl
    · rw [pb_a00, dry2f (by omega) (by omega)] at hdr
      cases hdr
    · rw [pb_a01, dry2f (by omega) (by omega)] at hdr
      cases hdr
  · rw [pb_n1] at hn
    have hpk : pkQ (PB d f) (.ord (PO fl)) (1, [x, y]) = fl := pb_pk hfl hx hy
    rw [hpk] at hn
    simp only [List.mem_cons, List.not_mem_nil, or_false] at hn
    subst hn
    match n, hfl with
    | 0, _ =>
      rw [pb_a10, dry2f (by omega) (by omega)] at hdr
      cases hdr
    | 1, _ =>
      rw [pb_a11, dry2f (by omega) (by omega)] at hdr
      cases hdr
/-- the outside draws from the tank that is not filled -/
theorem pump_yes {d f fl L : Nat} (hd : 0 < d) (hfl : fl < 2) : ∃ p, G.R (scQ (PB d f) (.ord (PO fl)) none) (0, [(L : Int), (L : Int)]) (2 * (L / d)) p ∧ exQ (PB d f) (.ord (PO fl)) p = true := by
  have hbound : ∀ i, i ≤ L / d → (i : Int) * d ≤ L := fun i hi => by
    have h2 := Nat.mul_le_mul_right d hi
    have h3 := Nat.div_mul_le_self L d
    have : ((i * d : Nat) : Int) ≤ L := by omega
    rwa [Int.natCast_mul] at this
  have way : ∀ i, i ≤ L / d → ∃ x : Int, 0 ≤ x ∧ G.R (scQ (PB d f) (.ord (PO fl)) none) (0, [(L : Int), (L : Int)]) (2 * i) (0, if fl = 0 then [x, (L : Int) - i * d] else [(L : Int) - i * d, x]) := by
    intro i
    induction i with
    | zero => exact fun _ => ⟨L, by omega, by simp; exact .zero⟩
    | succ i ih =>
      intro hi
      obtain ⟨x, hx, hr⟩ := ih (by omega)
      have hb := hbound (i + 1) hi
      rw [mul1] at hb
      match fl, hfl with
      | 0, _ =>
        simp only [if_true] at hr ⊢
        refine ⟨x + 0 + f, by omega, ?_⟩
        have s1 := mem_sc (b := PB d f) (q := .ord (PO 0)) (z := none) (p := (0, [x, (L : Int) - i * d])) (n := 1) (by rw [pb_n0]; simp) (by rw [pb_a01]; exact dry2f (by omega) (by omega))
        have r1 := G.R.succ hr s1
        have e1 : nx (PB d f) none (0, [x, (L : Int) - i * d]) 1 = (1, [x + 0, (L : Int) - i * d + (0 - d)]) := rfl
        rw [e1] at r1
        have s2 := mem_sc (b := PB d f) (q := .ord (PO 0)) (z := none) (p := (1, [x + 0, (L : Int) - i * d + (0 - d)])) (n := 0) (by rw [pb_n1, show pkQ (PB d f) (.ord (PO 0)) (1, [x + 0, (L : Int) - i * d + (0 - d)]) = 0 from pb_pk (by omega) (by omega) (by omega)]; simp) (by rw [pb_a10]; exact dry2f (by omega) (by omega))
        have r2 := G.R.succ r1 s2
        have e2 : nx (PB d f) none (1, [x + 0, (L : Int) - i * d + (0 - d)]) 0 = (0, [x + 0 + f, (L : Int) - i * d + (0 - d) + 0]) := rfl
        rw [e2] at r2
        have e3 : (L : Int) - i * d + (0 - d) + 0 = L - ((i + 1 : Nat) : Int) * d := by rw [mul1]; omega
        rw [e3] at r2
        exact r2
      | 1, _ =>
        simp only [Nat.one_ne_zero, if_false] at hr ⊢
        refine ⟨x + 0 + f, by omega, ?_⟩
        have s1 := mem_sc (b := PB d f) (q := .ord (PO 1)) (z := none) (p := (0, [(L : Int) - i * d, x])) (n := 0) (by rw [pb_n0]; simp) (by rw [pb_a00]; exact dry2f (by omega) (by omega))
        have r1 := G.R.succ hr s1
        have e1 : nx (PB d f) none (0, [(L : Int) - i * d, x]) 0 = (1, [(L : Int) - i * d + (0 - d), x + 0]) := rfl
        rw [e1] at r1
        have s2 := mem_sc (b := PB d f) (q := .ord (PO 1)) (z := none) (p := (1, [(L : Int) - i * d + (0 - d), x + 0])) (n := 1) (by rw [pb_n1, show pkQ (PB d f) (.ord (PO 1)) (1, [(L : Int) - i * d + (0 - d), x + 0]) = 1 from pb_pk (by omega) (by omega) (by omega)]; simp) (by rw [pb_a11]; exact dry2f (by omega) (by omega))
        have r2 := G.R.succ r1 s2
        have e2 : nx (PB d f) none (1, [(L : Int) - i * d + (0 - d), x + 0]) 1 = (0, [(L : Int) - i * d + (0 - d) + 0, x + 0 + f]) := rfl
        rw [e2] at r2
        have e3 : (L : Int) - i * d + (0 - d) + 0 = L - ((i + 1 : Nat) : Int) * d := by rw [mul1]; omega
        rw [e3] at r2
        exact r2
  obtain ⟨x, hx, hr⟩ := way (L / d) (Nat.le_refl _)
  refine ⟨_, hr, ?_⟩
  have hlow : (L : Int) - ((L / d : Nat) : Int) * d < d := by
    have h1 := Nat.div_add_mod L d
    have h2 := Nat.mod_lt L hd
    have h3 : ((d * (L / d) + L % d : Nat) : Int) = L := by rw [h1]
    rw [Int.natCast_add, Int.natCast_mul, Int.mul_comm] at h3
    omega
  unfold exQ
  rw [List.any_eq_true]
  match fl, hfl with
  | 0, _ => exact ⟨1, by rw [if_pos rfl, pb_n0]; simp, by rw [if_pos rfl, pb_a01, dry2, Bool.or_eq_true, decide_eq_true_eq, decide_eq_true_eq]; omega⟩
  | 1, _ => exact ⟨0, by rw [if_neg (by omega), pb_n0]; simp, by rw [if_neg (by omega), pb_a00, dry2, Bool.or_eq_true, decide_eq_true_eq, decide_eq_true_eq]; omega⟩
/-- few places, if few moves -/
theorem run_exp {b : Bk} {q : Pol} {z : Sz} {st : Plc} (h : ∀ p, (numsQ b q p).length ≤ 2) : ∀ k, (runQ b q z st k).2.length ≤ (runQ b q z st k).1.length ∧ (runQ b q z st k).1.length ≤ 3 ^ k
  | 0 => by simp [runQ]
  | k + 1 => by
    obtain ⟨h1, h2⟩ := run_exp (z := z) (st := st) h k
    have hl := G.layr_len (sc := scQ b q z) (layer := (runQ b q z st k).2) (m := 2) (fun p _ => Nat.le_trans sc_len (h p)) ((runQ b q z st k).1, [])
    have e : runQ b q z st (k + 1) = (runQ b q z st k).2.foldl (fun st p => G.stpM (scQ b q z) p st) ((runQ b q z st k).1, []) := rfl
    rw [← e] at hl
    have hp : 3 ^ (k + 1) = 3 * 3 ^ k := by rw [Nat.pow_succ, Nat.mul_comm]
    refine ⟨?_, by rw [hp]; simp only [List.length_nil] at hl; omega⟩
    -- the layer lies in the keys
    have : ∀ (layer : List Plc) (s : Came × List Plc), s.2.length ≤ s.1.length → (layer.foldl (fun st p => G.stpM (scQ b q z) p st) s).2.length ≤ (layer.foldl (fun st p => G.stpM (scQ b q z) p st) s).1.length := by
      intro layer s hs
      refine G.foldl_inv (fun s : Came × List Plc => s.2.length ≤ s.1.length) layer s hs fun p _ s hs => ?_
      refine G.foldl_inv (fun s : Came × List Plc => s.2.length ≤ s.1.length) _ s hs fun x _ s hs => ?_
      unfold G.stp
      split
      · simp; omega
      · exact hs
    rw [e]
    exact this _ _ (by simp)
theorem few_exp {b : Bk} {q : Pol} {z : Sz} {st : Plc} {most : Nat} (h : ∀ p, (numsQ b q p).length ≤ 2) (hm : most ≤ 8) : Few b q z st most := fun k hk _ => by
  have h1 := (run_exp (z := z) (st := st) h k).2
  have h2 : 3 ^ k ≤ 3 ^ 7 := Nat.pow_le_pow_right (by omega) (by omega)
  have h3 : 3 ^ 7 = 2187 := by decide
  omega
theorem nums2 {b : Bk} {q : Pol} (h : ∀ s, (mvs b s).length ≤ 2) (p : Plc) : (numsQ b q p).length ≤ 2 := by
  unfold numsQ numsG
  split
  · simp
  · split
    · simp
    · simpa using h p.1
end K84

/-! k84: the pump by rules. -/
namespace K84
open PySem PySem.Spec PyProof.Rows L2 DL BK

theorem pb_sz (d f : Nat) {m : Nat} : szOk (PB d f) (some [(m : Int), (m : Int)]) := fun y e => by
  cases e
  refine ⟨rfl, fun t ht => ?_⟩
  match t, ht with
  | 0, _ => simp [gt]
  | 1, _ => simp [gt]
/-- the pick by a rule, at the house -/
theorem pkR_pb {d f : Nat} {r : Rul} {x y : Int} (hx : 0 ≤ x) (hy : 0 ≤ y) : pkR (PB d f) r (1, [x, y]) = if worth r [x + f, y + 0] < worth r [x + 0, y + f] then 1 else 0 := by
  have e : (mvs (PB d f) 1).zipIdx = [(⟨"x", [(f : Int), 0], 0⟩, 0), (⟨"y", [0, (f : Int)], 0⟩, 1)] := rfl
  have a1 : add [x, y] [(f : Int), 0] = [x + f, y + 0] := rfl
  have a2 : add [x, y] [0, (f : Int)] = [x + 0, y + f] := rfl
  have d1 : dry [x + f, y + 0] = false := dry2f (by omega) (by omega)
  have d2 : dry [x + 0, y + f] = false := dry2f (by omega) (by omega)
  show bnum (bestR r [x, y] ((mvs (PB d f) 1).zipIdx) none) = _
  rw [e]
  simp only [bestR, List.foldl_cons, List.foldl_nil, bstep, a1, a2, d1, d2, better, true_and, if_true, decide_eq_true_eq]
  by_cases h : worth r [x + ↑f, y + 0] < worth r [x + 0, y + ↑f]
  · rw [if_pos h, if_pos h]; rfl
  · rw [if_neg h, if_neg h]; rfl
theorem minL2 {x y : Int} : minL [x, y] = min x y := rfl
/-- filled evenly, both stay high -/
def EInv (L d f : Nat) (p : Plc) : Prop := ∃ x y : Int, p.2 = [x, y] ∧ 0 ≤ x ∧ 0 ≤ y ∧ ((p.1 = 0 ∧ (L : Int) ≤ x ∧ (L : Int) ≤ y) ∨ (p.1 = 1 ∧ (((L : Int) - d ≤ x ∧ (L : Int) ≤ y) ∨ ((L : Int) ≤ x ∧ (L : Int) - d ≤ y))))
theorem einv_R {d f L : Nat} (hdL : d ≤ L) (hdf : d ≤ f) {j : Nat} {p : Plc} (h : G.R (scQ (PB d f) (.rul .even) (some [((L + f : Nat) : Int), ((L + f : Nat) : Int)])) (0, [(L : Int), (L : Int)]) j p) : EInv L d f p := by
  induction h with
  | zero => exact ⟨L, L, rfl, by omega, by omega, .inl ⟨rfl, by omega, by omega⟩⟩
  | @succ k u r n hr e ih =>
    obtain ⟨h1, h2, h3⟩ := sc_mem e
    simp only at h1 h2 h3
    obtain ⟨us, ul⟩ := u
    obtain ⟨x, y, rfl, hx, hy, hi⟩ := ih
    rcases hi with ⟨rfl, hi1, hi2⟩ | ⟨rfl, hi⟩
    · rw [pb_n0] at h1
      simp only [List.mem_cons, List.not_mem_nil, or_false] at h1
      rcases h1 with rfl | rfl
      · refine ⟨min (x + (0 - d)) ((L + f : Nat) : Int), min (y + 0) ((L + f : Nat) : Int), by rw [h3]; rfl, by omega, by omega, .inr ⟨by rw [h3]; rfl, .inl ⟨by omega, by omega⟩⟩⟩
      · refine ⟨min (x + 0) ((L + f : Nat) : Int), min (y + (0 - d)) ((L + f : Nat) : Int), by rw [h3]; rfl, by omega, by omega, .inr ⟨by rw [h3]; rfl, .inr ⟨by omega, by omega⟩⟩⟩
    · rw [pb_n1] at h1
      have hpk : pkQ (PB d f) (.rul .even) (1, [x, y]) = if worth .even [x + f, y + 0] < worth .even [x + 0, y + f] then 1 else 0 := pkR_pb hx hy
      rw [hpk] at h1
      by_cases hc : worth .even [x + f, y + 0] < worth .even [x + 0, y + f]
      · rw [if_pos hc] at h1
        simp only [List.mem_cons, List.not_mem_nil, or_false] at h1
        simp only [worth, minL2] at hc
        subst h1
        refine ⟨min (x + 0) ((L + f : Nat) : Int), min (y + f) ((L + f : Nat) : Int), by rw [h3]; rfl, by omega, by omega, .inl ⟨by rw [h3]; rfl, by omega, by omega⟩⟩
      · rw [if_neg hc] at h1
        simp only [List.mem_cons, List.not_mem_nil, or_false] at h1
        simp only [worth, minL2] at hc
        subst h1
        refine ⟨min (x + f) ((L + f : Nat) : Int), min (y + 0) ((L + f : Nat) : Int), by rw [h3]; rfl, by omega, by omega, .inl ⟨by rw [h3]; rfl, by omega, by omega⟩⟩
theorem even_keeps {d f L : Nat} (hdL : d ≤ L) (hdf : d ≤ f) {j : Nat} {p : Plc} (h : G.R (scQ (PB d f) (.rul .even) (some [((L + f : Nat) : Int), ((L + f : Nat) : Int)])) (0, [(L : Int), (L : Int)]) j p) : exQ (PB d f) (.rul .even) p = false := by
  obtain ⟨ps, pl⟩ := p
  obtain ⟨x, y, rfl, hx, hy, hi⟩ := einv_R hdL hdf h
  unfold exQ
  rw [← Bool.not_eq_true, List.any_eq_true]
  rintro ⟨n, hn, hdr⟩
  rcases hi with ⟨rfl, hi1, hi2⟩ | ⟨rfl, hi⟩
  · rw [pb_n0] at hn
    simp only [List.mem_cons, List.not_mem_nil, or_false] at hn
    rcases hn with rfl | rfl
    · rw [pb_a00, dry2f (by omega) (by omega)] at hdr
      cases hdr
    · rw [pb_a01, dry2f (by omega) (by omega)] at hdr
      cases hdr
  · rw [pb_n1] at hn
    have hpk : pkQ (PB d f) (.rul .even) (1, [x, y]) = if worth .even [x + f, y + 0] < worth .even [x + 0, y + f] then 1 else 0 := pkR_pb hx hy
    rw [hpk] at hn
    simp only [List.mem_cons, List.not_mem_nil, or_false] at hn
    split at hn
    · subst hn
      rw [pb_a11, dry2f (by omega) (by omega)] at hdr
      cases hdr
    · subst hn
      rw [pb_a10, dry2f (by omega) (by omega)] at hdr
      cases hdr
/-- filled always there, the other runs dry -/
theorem other_dries {d f L : Nat} {r : Rul} (hr : ∀ x y : Int, ¬ worth r [x + f, y + 0] < worth r [x + 0, y + f]) (hd : 0 < d) : ∃ j p, G.R (scQ (PB d f) (.rul r) (some [((L + f : Nat) : Int), ((L + f : Nat) : Int)])) (0, [(L : Int), (L : Int)]) j p ∧ exQ (PB d f) (.rul r) p = true := by
  have hbound : ∀ i, i ≤ L / d → (i : Int) * d ≤ L := fun i hi => by
    have h2 := Nat.mul_le_mul_right d hi
    have h3 := Nat.div_mul_le_self L d
    have : ((i * d : Nat) : Int) ≤ L := by omega
    rwa [Int.natCast_mul] at this
  have way : ∀ i, i ≤ L / d → ∃ (x : Int) (j : Nat), 0 ≤ x ∧ G.R (scQ (PB d f) (.rul r) (some [((L + f : Nat) : Int), ((L + f : Nat) : Int)])) (0, [(L : Int), (L : Int)]) j (0, [x, (L : Int) - i * d]) := by
    intro i
    induction i with
    | zero => exact fun _ => ⟨L, 0, by omega, by simp; exact .zero⟩
    | succ i ih =>
      intro hi
      obtain ⟨x, j, hx, hR⟩ := ih (by omega)
      have hb := hbound (i + 1) hi
      rw [mul1] at hb
      have hb0 : (0 : Int) ≤ (i : Int) * d := Int.mul_nonneg (by omega) (by omega)
      have s1 := mem_sc (b := PB d f) (q := .rul r) (z := some [((L + f : Nat) : Int), ((L + f : Nat) : Int)]) (p := (0, [x, (L : Int) - i * d])) (n := 1) (by rw [pb_n0]; simp) (by rw [pb_a01]; exact dry2f (by omega) (by omega))
      have r1 := G.R.succ hR s1
      have e1 : nx (PB d f) (some [((L + f : Nat) : Int), ((L + f : Nat) : Int)]) (0, [x, (L : Int) - i * d]) 1 = (1, [min (x + 0) ((L + f : Nat) : Int), (L : Int) - i * d + (0 - d)]) := by
        have : min ((L : Int) - i * d + (0 - d)) ((L + f : Nat) : Int) = (L : Int) - i * d + (0 - d) := by omega
        show (1, [min (x + 0) ((L + f : Nat) : Int), min ((L : Int) - i * d + (0 - d)) ((L + f : Nat) : Int)]) = _
        rw [this]
      rw [e1] at r1
      generalize hx' : min (x + 0) ((L + f : Nat) : Int) = x' at r1
      have hx0 : 0 ≤ x' := by omega
      have hpk : pkQ (PB d f) (.rul r) (1, [x', (L : Int) - i * d + (0 - d)]) = 0 := by
        show pkR _ _ _ = 0
        rw [pkR_pb hx0 (by omega), if_neg (hr _ _)]
      have s2 := mem_sc (b := PB d f) (q := .rul r) (z := some [((L + f : Nat) : Int), ((L + f : Nat) : Int)]) (p := (1, [x', (L : Int) - i * d + (0 - d)])) (n := 0) (by rw [pb_n1, hpk]; simp) (by rw [pb_a10]; exact dry2f (by omega) (by omega))
      have r2 := G.R.succ r1 s2
      have e2 : nx (PB d f) (some [((L + f : Nat) : Int), ((L + f : Nat) : Int)]) (1, [x', (L : Int) - i * d + (0 - d)]) 0 = (0, [min (x' + f) ((L + f : Nat) : Int), (L : Int) - ((i + 1 : Nat) : Int) * d]) := by
        have : min ((L : Int) - i * d + (0 - d) + 0) ((L + f : Nat) : Int) = (L : Int) - ((i + 1 : Nat) : Int) * d := by rw [mul1]; omega
        show (0, [min (x' + f) ((L + f : Nat) : Int), min ((L : Int) - i * d + (0 - d) + 0) ((L + f : Nat) : Int)]) = _
        rw [this]
      rw [e2] at r2
      exact ⟨_, _, by omega, r2⟩
  obtain ⟨x, j, hx, hR⟩ := way (L / d) (Nat.le_refl _)
  refine ⟨_, _, hR, ?_⟩
  have hlow : (L : Int) - ((L / d : Nat) : Int) * d < d := by
    have h1 := Nat.div_add_mod L d
    have h2 := Nat.mod_lt L hd
    have h3 : ((d * (L / d) + L % d : Nat) : Int) = L := by rw [h1]
    rw [Int.natCast_add, Int.natCast_mul, Int.mul_comm] at h3
    omega
  unfold exQ
  rw [List.any_eq_true]
  exact ⟨1, by rw [pb_n0]; simp, by rw [pb_a01, dry2, Bool.or_eq_true, decide_eq_true_eq, decide_eq_true_eq]; omega⟩
theorem hi_le {f : Nat} (x y : Int) : ¬ worth .highest [x + f, y + 0] < worth .highest [x + 0, y + f] := by
  simp only [worth, List.sum_cons, List.sum_nil]
  omega
theorem fi_le {f : Nat} (x y : Int) : ¬ worth .first [x + f, y + 0] < worth .first [x + 0, y + f] := by simp only [worth]; omega
theorem pb_st {d f L : Nat} : PlW (PB d f) (0, [(L : Int), (L : Int)]) := ⟨show 0 < 2 by omega, rfl⟩
theorem pb_bx {L f : Nat} : inBx [((L + f : Nat) : Int), ((L + f : Nat) : Int)] [(L : Int), (L : Int)] := ⟨rfl, fun t ht => by
  match t, ht with
  | 0, _ => simp [gt] <;> omega
  | 1, _ => simp [gt] <;> omega⟩
theorem pb_u {d f L : Nat} (h : L + f ≤ 13) : (ubx (PB d f).sts.length [((L + f : Nat) : Int), ((L + f : Nat) : Int)]).length ≤ 392 := by
  rw [ubx_len, bxs_len, bxs_len]
  have h1 : (((L + f : Nat) : Int)).toNat + 1 ≤ 14 := by omega
  have h2 := Nat.mul_le_mul h1 h1
  have h3 : (PB d f).sts.length = 2 := rfl
  rw [h3]
  simp [bxs] at h2 ⊢
  omega
/-- what the pump's rules tell -/
theorem pump_rule {d f L : Nat} (hd : 0 < d) (hdL : d ≤ L) (hdf : d ≤ f) (h13 : L + f ≤ 13) (r : Rul) (S : Store) : ∃ o, f_rule_dries [eB (PB d f), .int (0 : Nat), eL [(L : Int), (L : Int)], eL [((L + f : Nat) : Int), ((L + f : Nat) : Int)], .str (eR r)] S = some (eF o, S) ∧
    f_rule_keeps [eB (PB d f), .int (0 : Nat), eL [(L : Int), (L : Int)], eL [((L + f : Nat) : Int), ((L + f : Nat) : Int)], .str (eR r)] S = some (.bl (decide (o = none)), S) ∧ (o = none ↔ r = .even) := by
  have W := pb_w d f
  have hpo : polOk (PB d f) (.rul r) := trivial
  have hsz := pb_sz d f (m := L + f)
  have hR : ∀ k p, G.R (scQ (PB d f) (.rul r) (some [((L + f : Nat) : Int), ((L + f : Nat) : Int)])) (0, [(L : Int), (L : Int)]) k p → p ∈ ubx (PB d f).sts.length [((L + f : Nat) : Int), ((L + f : Nat) : Int)] := fun k p hr => by
    obtain ⟨h1, h2⟩ := R_box W hpo hsz pb_st pb_bx hr
    exact mem_ubx h1.s h2
  obtain ⟨o, e1, hf, e2⟩ := keeps_ok W (fun s => Nat.le_trans (pb_9 d f s) (by omega)) hsz pb_st hR (Nat.le_trans (pb_u h13) (by omega)) (S := S)
  refine ⟨o, e1, e2, ?_⟩
  cases r with
  | even =>
    refine ⟨fun _ => rfl, fun _ => ?_⟩
    cases o with
    | none => rfl
    | some pl =>
      obtain ⟨ns, n, p, h1, h2, h3, h4, h5, h6⟩ := hf
      have := even_keeps hdL hdf h3.r
      unfold exQ at this
      rw [← Bool.not_eq_true, List.any_eq_true] at this
      exact absurd ⟨n, h4, h5⟩ this
  | highest =>
    refine ⟨fun z => ?_, fun z => by cases z⟩
    subst z
    obtain ⟨j, p, h1, h2⟩ := other_dries (L := L) (hi_le (f := f)) hd
    rw [hf j p h1] at h2
    cases h2
  | first =>
    refine ⟨fun z => ?_, fun z => by cases z⟩
    subst z
    obtain ⟨j, p, h1, h2⟩ := other_dries (L := L) (fi_le (f := f)) hd
    rw [hf j p h1] at h2
    cases h2
/-- the search by an order, at the pump -/
theorem pump_beaten {d f fl L most : Nat} (hd : 0 < d) (hfl : fl < 2) (hm : most ≤ 8) (S : Store) : ∃ r, f_beaten_within [eB (PB d f), .int (0 : Nat), eL [(L : Int), (L : Int)], eO (PO fl), .int most] S = some (eF r, S) ∧
    (most ≤ 2 * (L / d) → r = none) ∧ (2 * (L / d) < most → ∃ ns n p, r = some (ns ++ [n]) ∧ ns.length = 2 * (L / d) ∧ G.W (scQ (PB d f) (.ord (PO fl)) none) (0, [(L : Int), (L : Int)]) ns p ∧ n ∈ numsQ (PB d f) (.ord (PO fl)) p ∧ dry (aft (PB d f) p n) = true) := by
  have W := pb_w d f
  obtain ⟨r, e, hf⟩ := beaten_ok W (fun s => Nat.le_trans (pb_9 d f s) (by omega)) (po_ok hfl) (pb_st (L := L)) (most := most) (by omega) (few_exp (nums2 (pb_9 d f)) hm) (S := S)
  refine ⟨r, e, fun h => ?_, fun h => ?_⟩
  · cases r with
    | none => rfl
    | some pl =>
      obtain ⟨ns, n, p, h1, h2, h3, h4, h5, h6⟩ := hf
      have := pump_no hd hfl (by omega) h3.r
      unfold exQ at this
      rw [← Bool.not_eq_true, List.any_eq_true] at this
      exact absurd ⟨n, h4, h5⟩ this
  · cases r with
    | none =>
      obtain ⟨p, h1, h2⟩ := pump_yes (f := f) (L := L) hd hfl
      have := hf _ h p h1
      rw [this] at h2
      cases h2
    | some pl =>
      obtain ⟨ns, n, p, h1, h2, h3, h4, h5⟩ := fnd_len hf (pump_yes hd hfl) (fun j hj p hr => pump_no hd hfl hj hr)
      exact ⟨ns, n, p, by rw [h1], h2, h3, h4, h5⟩
theorem pump_levels {d f fl many : Nat} (hd : 0 < d) (hfl : fl < 2) (hm : many ≤ 8) (h60 : d * ((many + 1) / 2) ≤ 60) (S : Store) : f_order_levels [eB (PB d f), .int (0 : Nat), eO (PO fl), .int many] S = some (.int (d * ((many + 1) / 2) : Nat), S) := by
  have W := pb_w d f
  have h9 : ∀ s, (mvs (PB d f) s).length ≤ 9 := fun s => Nat.le_trans (pb_9 d f s) (by omega)
  have hrep : ∀ m : Nat, rep m (PB d f).T = [(m : Int), (m : Int)] := fun m => rfl
  obtain ⟨r, e, hr⟩ := ordLev_ok W h9 (po_ok hfl) (s := 0) (many := many) (show 0 < 2 by omega) (by omega) (fun m _ _ => few_exp (nums2 (pb_9 d f)) hm) (S := S)
  have safe : ∀ m, Safe (PB d f) (.ord (PO fl)) none many 0 m ↔ many ≤ 2 * (m / d) := fun m => by
    unfold Safe
    rw [hrep]
    constructor
    · intro h
      refine Classical.byContradiction fun z => ?_
      obtain ⟨p, h1, h2⟩ := pump_yes (f := f) (L := m) hd hfl
      rw [h _ (by omega) p h1] at h2
      cases h2
    · exact fun h j hj p hR => pump_no hd hfl (by omega) hR
  have hM : Safe (PB d f) (.ord (PO fl)) none many 0 (d * ((many + 1) / 2)) := by
    rw [safe, Nat.mul_div_cancel_left _ hd]
    omega
  have hlow : ∀ m, m < d * ((many + 1) / 2) → ¬ Safe (PB d f) (.ord (PO fl)) none many 0 m := fun m hm' h => by
    rw [safe] at h
    have : m / d < (many + 1) / 2 := (Nat.div_lt_iff_lt_mul hd).mpr (by rw [Nat.mul_comm]; exact hm')
    omega
  cases r with
  | none => exact absurd hM (hr _ h60)
  | some m =>
    have hmm : m = d * ((many + 1) / 2) := by
      rcases Nat.lt_trichotomy m (d * ((many + 1) / 2)) with h | h | h
      · exact absurd hr.2.1 (hlow m h)
      · exact h
      · exact absurd hM (hr.2.2 _ h)
    subst hmm
    exact e
end K84

/-! k84: the pump. -/
namespace K84
open PySem PySem.Spec PyProof.Rows L2 DL BK

theorem toN {a b : Nat} : ((a + b : Nat) : Int) = (a : Int) + b := Int.natCast_add a b
instance : DecidableEq Rul := fun a b => by
  cases a <;> cases b <;> first | exact isTrue rfl | exact isFalse (fun z => by cases z)
theorem eq_even (r : Rul) (S : Store) : eqD (.str (eR r)) (.str "even") S = some (.bl (decide (r = .even)), S) := by
  have r4' : ¬ ("highest" : Str) = "even" := r4
  cases r with
  | first => simp [eqD, eqS, eR, r2]
  | highest => simp [eqD, eqS, eR, r4']
  | even => simp [eqD, eqS, eR]
theorem pump_ok {F c : Cell} (h : Sp F c) : SpF f__law_pump [.ref 1] F c [] fun d => d = .bl true := by
  have z0 : (0 : Nat) ≤ sizeLine := Nat.zero_le _
  have z1 : (1 : Nat) ≤ sizeLine := by rw [sizeLine_eq]; omega
  have z2 : (2 : Nat) ≤ sizeLine := by rw [sizeLine_eq]; omega
  have z3 : (3 : Nat) ≤ sizeLine := by rw [sizeLine_eq]; omega
  refine spF_ev ?_
  unfold c__law_pump
  obtain ⟨d1, c1, e1, s1, v1, rfl, b1⟩ := roll_ok (T := []) (m := 3) h (by omega)
  refine Ev.seq (Ev.setN (d := .int ((1 + v1 : Nat) : Int)) (S' := [F, c1]) (by simp [sSeq, sSet, sRet, sExpr, sIf, gN, gT, gsCons, gsNil, cVar, cC, cBin, cUn, cNil, cCons, cApp, cB, cTr, cAnd, cOr, cNot, cV, cAndV, cOrV, cNotV, cIf, nD, mkTup, mkLst, mkBox, asQ, asL, negD, addD, subD, cmpD, isND, notND, eqD, neD, eqS, lenD, tupleD, DL.intD, cM, apnd, popM, sPar, sPar3, sNext, sAug, ipD, e1]) ?_)
  generalize hd : 1 + v1 = d
  obtain ⟨d2, c2, e2, s2, v2, rfl, b2⟩ := roll_ok (T := []) (m := 3) s1 (by omega)
  refine Ev.seq (Ev.setN (d := .int ((d + v2 : Nat) : Int)) (S' := [F, c2]) (by simp [sSeq, sSet, sRet, sExpr, sIf, gN, gT, gsCons, gsNil, cVar, cC, cBin, cUn, cNil, cCons, cApp, cB, cTr, cAnd, cOr, cNot, cV, cAndV, cOrV, cNotV, cIf, nD, mkTup, mkLst, mkBox, asQ, asL, negD, addD, subD, cmpD, isND, notND, eqD, neD, eqS, lenD, tupleD, DL.intD, cM, apnd, popM, sPar, sPar3, sNext, sAug, ipD, e2]) ?_)
  generalize hf : d + v2 = f
  obtain ⟨d3, c3, e3, s3, fl, rfl, b3⟩ := roll_ok (T := []) (m := 2) s2 (by omega)
  have hfl : fl < 2 := by omega
  refine Ev.seq (Ev.setN (d := .int fl) (S' := [F, c3]) (by simp [sSeq, sSet, sRet, sExpr, sIf, gN, gT, gsCons, gsNil, cVar, cC, cBin, cUn, cNil, cCons, cApp, cB, cTr, cAnd, cOr, cNot, cV, cAndV, cOrV, cNotV, cIf, nD, mkTup, mkLst, mkBox, asQ, asL, negD, addD, subD, cmpD, isND, notND, eqD, neD, eqS, lenD, tupleD, DL.intD, cM, apnd, popM, sPar, sPar3, sNext, sAug, ipD, e3]) ?_)
  refine Ev.seq (Ev.setN (d := eB (PB d f)) (S' := [F, c3]) (by simp [sSeq, sSet, sRet, sExpr, sIf, gN, gT, gsCons, gsNil, cVar, cC, cBin, cUn, cNil, cCons, cApp, cB, cTr, cAnd, cOr, cNot, cV, cAndV, cOrV, cNotV, cIf, nD, mkTup, mkLst, mkBox, asQ, asL, negD, addD, subD, cmpD, isND, notND, eqD, neD, eqS, lenD, tupleD, DL.intD, cM, apnd, popM, sPar, sPar3, sNext, sAug, ipD, z1, z2, z3, eB, PB, eS, eM, eL]) ?_)
  have h1f : (1 : Int) - fl = ((1 - fl : Nat) : Int) := by omega
  refine Ev.seq (Ev.setN (d := eO (PO fl)) (S' := [F, c3]) (by simp [sSeq, sSet, sRet, sExpr, sIf, gN, gT, gsCons, gsNil, cVar, cC, cBin, cUn, cNil, cCons, cApp, cB, cTr, cAnd, cOr, cNot, cV, cAndV, cOrV, cNotV, cIf, nD, mkTup, mkLst, mkBox, asQ, asL, negD, addD, subD, cmpD, isND, notND, eqD, neD, eqS, lenD, tupleD, DL.intD, cM, apnd, popM, sPar, sPar3, sNext, sAug, ipD, z0, z2, eO, PO, eN, h1f]) ?_)
  obtain ⟨d4, c4, e4, s4, v4, rfl, b4⟩ := roll_ok (T := []) (m := ((2 * d : Nat) : Int)) s3 (by omega)
  have e4' : f__law_roll [.ref 1, .int (2 * (d : Int))] [F, c3] = some (.int v4, [F, c4]) := by
    rw [← e4]
    congr 1
  refine Ev.seq (Ev.setN (d := .int ((d + v4 : Nat) : Int)) (S' := [F, c4]) (by simp [sSeq, sSet, sRet, sExpr, sIf, gN, gT, gsCons, gsNil, cVar, cC, cBin, cUn, cNil, cCons, cApp, cB, cTr, cAnd, cOr, cNot, cV, cAndV, cOrV, cNotV, cIf, nD, mkTup, mkLst, mkBox, asQ, asL, negD, addD, subD, cmpD, isND, notND, eqD, neD, eqS, lenD, tupleD, DL.intD, cM, apnd, popM, sPar, sPar3, sNext, sAug, ipD, mul_l (a := 2) (b := (d : Int)) (by omega) (by omega), e4']) ?_)
  generalize hL : d + v4 = L
  have hd0 : 0 < d := by omega
  have hdv : ((L : Int) / (d : Int)) = ((L / d : Nat) : Int) := rfl
  have hq : L / d ≤ 2 := by
    have : L / d < 3 := (Nat.div_lt_iff_lt_mul hd0).mpr (by omega)
    omega
  refine Ev.seq (Ev.setN (d := .int ((2 * (L / d) + 1 : Nat) : Int)) (S' := [F, c4]) (cBin_of (cBin_of rfl (cBin_of rfl rfl (fdiv_s (by omega) (by omega))) (mul_l (by omega) (by omega))) rfl (by rw [hdv]; simp [addD])) ?_)
  generalize hw : 2 * (L / d) = w
  refine Ev.seq (Ev.setN (d := eL [(L : Int), (L : Int)]) (S' := [F, c4]) (by simp [sSeq, sSet, sRet, sExpr, sIf, gN, gT, gsCons, gsNil, cVar, cC, cBin, cUn, cNil, cCons, cApp, cB, cTr, cAnd, cOr, cNot, cV, cAndV, cOrV, cNotV, cIf, nD, mkTup, mkLst, mkBox, asQ, asL, negD, addD, subD, cmpD, isND, notND, eqD, neD, eqS, lenD, tupleD, DL.intD, cM, apnd, popM, sPar, sPar3, sNext, sAug, ipD, z2, eL]) ?_)
  -- the play
  obtain ⟨d5, c5, e5, s5, v5, rfl, b5⟩ := roll_ok (T := []) (m := 3) s4 (by omega)
  obtain ⟨r5, a5, _, a5'⟩ := pump_beaten (f := f) (L := L) (most := w + 1 + v5) hd0 hfl (by omega) [F, c5]
  obtain ⟨ns, n, p, rfl, hnl, hw5, hn5, hd5⟩ := a5' (by omega)
  have hright := lright_ok (pb_w d f) (q := .ord (PO fl)) (po_ok hfl) (z := none) (fun y e => by cases e) pb_st hw5 hn5 hd5 (by omega) (S := [F, c5])
  rw [hnl, hw] at hright
  have a5'' : f_beaten_within [eB (PB d f), .int (0 : Nat), eL [(L : Int), (L : Int)], eO (PO fl), .int (((w + 1 : Nat) : Int) + v5)] [F, c5] = some (eN (ns ++ [n]), [F, c5]) := by
    rw [← toN]
    exact a5
  refine Ev.seq (Ev.ifF (S' := [F, c5]) (cNot_of (c := true) (cB_of (cApp_of (cCons_of rfl (cCons_of rfl (cCons_of rfl (cCons_of rfl (cCons_of (cApp_of (cCons_of rfl (cCons_of rfl (cCons_of rfl (cCons_of rfl (cCons1 (cBin_of rfl (cApp_of (cCons_of rfl (cCons1 rfl)) (nD_of e5 rfl)) rfl)))))) (nD_of a5'' rfl)) (cCons_of rfl (cCons1 rfl))))))) (nD_of hright rfl)))) (Ev.next ?_))
  obtain ⟨r6, a6, a6', _⟩ := pump_beaten (f := f) (L := L) (most := w) hd0 hfl (by omega) [F, c5]
  have hr6 := a6' (by omega)
  subst hr6
  have hw1 : ((w + 1 : Nat) : Int) - 1 = (w : Int) := by omega
  refine Ev.seq (Ev.ifF (S' := [F, c5]) (cB_of (cBin_of (cApp_of (cCons_of rfl (cCons_of rfl (cCons_of rfl (cCons_of rfl (cCons1 (cBin_of (y := .int 1) rfl rfl (show subD (.int ((w + 1 : Nat) : Int)) (.int 1) _ = some (.int w, [F, c5]) by simp only [subD, hw1]))))))) (nD_of a6 rfl)) rfl rfl)) (Ev.next ?_))
  refine Ev.seq (Ev.setN (d := eL [((L + f : Nat) : Int), ((L + f : Nat) : Int)]) (S' := [F, c5]) (by simp [sSeq, sSet, sRet, sExpr, sIf, gN, gT, gsCons, gsNil, cVar, cC, cBin, cUn, cNil, cCons, cApp, cB, cTr, cAnd, cOr, cNot, cV, cAndV, cOrV, cNotV, cIf, nD, mkTup, mkLst, mkBox, asQ, asL, negD, addD, subD, cmpD, isND, notND, eqD, neD, eqS, lenD, tupleD, DL.intD, cM, apnd, popM, sPar, sPar3, sNext, sAug, ipD, z2, eL]) ?_)
  refine Ev.seq (Ev.for_ (S' := [F, c5]) (fun r : Rul => .str (eR r)) (fun rs ρ S => S = [F, c5] ∧ ∃ x10, ρ = [some (.ref 1), some (.int d), some (.int f), some (.int fl), some (eB (PB d f)), some (eO (PO fl)), some (.int L), some (.int ((w + 1 : Nat) : Int)), some (eL [(L : Int), (L : Int)]), some (eL [((L + f : Nat) : Int), ((L + f : Nat) : Int)]), x10, none])
    (l := [.even, .highest, .first]) (xs := [.str "even", .str "highest", .str "first"]) (by simp [cItS, sSeq, sSet, sRet, sExpr, sIf, gN, gT, gsCons, gsNil, cVar, cC, cBin, cUn, cNil, cCons, cApp, cB, cTr, cAnd, cOr, cNot, cV, cAndV, cOrV, cNotV, cIf, nD, mkTup, mkLst, mkBox, asQ, asL, negD, addD, subD, cmpD, isND, notND, eqD, neD, eqS, lenD, tupleD, DL.intD, cM, apnd, popM, sPar, sPar3, sNext, sAug, ipD, z3, itSeq]) rfl ⟨rfl, none, rfl⟩ ?_ ?_)
  · rintro r rs ρ S ⟨rfl, x10, rfl⟩
    refine ⟨_, rfl, ?_⟩
    obtain ⟨o, g1, g2, g3⟩ := pump_rule (L := L) (f := f) hd0 (by omega) (by omega) (by omega) r [F, c5]
    have hoe : decide (o = none) = decide (r = Rul.even) := by rw [decide_eq_decide]; exact g3
    rw [hoe] at g2
    have hal : f__law_alike [.bl (decide (r = Rul.even)), .bl (decide (r = Rul.even))] [F, c5] = some (.bl true, [F, c5]) := alike_ok 4 rfl
    refine Ev.ifF (S' := [F, c5]) (cOr_f (cNot_of (c := true) (cB_of (cApp_of (cCons_of (cApp_of (cCons_of rfl (cCons_of rfl (cCons_of rfl (cCons_of rfl (cCons1 rfl))))) (nD_of g2 rfl)) (cCons1 (cBin_of rfl rfl (eq_even r _)))) (nD_of hal rfl)))) (cB_of (cBin_of (x := .bl (decide (r = Rul.even))) (cBin_of (cApp_of (cCons_of rfl (cCons_of rfl (cCons_of rfl (cCons_of rfl (cCons1 rfl))))) (nD_of g1 rfl)) rfl (show isND (eF o) .non [F, c5] = some (.bl (decide (r = Rul.even)), [F, c5]) by rw [← hoe]; cases o <;> rfl)) (cBin_of rfl rfl (eq_even r _)) (show neD (.bl (decide (r = Rul.even))) (.bl (decide (r = Rul.even))) [F, c5] = some (.bl false, [F, c5]) by simp [neD, eqS])))) (Ev.next ⟨rfl, _, rfl⟩)
  · rintro ρ S ⟨rfl, x10, rfl⟩
    obtain ⟨d7, c7, e7, s7, v7, rfl, b7⟩ := roll_ok (T := []) (m := 7) s5 (by omega)
    refine Ev.seq (Ev.setN (d := .int ((1 + v7 : Nat) : Int)) (S' := [F, c7]) (by simp [sSeq, sSet, sRet, sExpr, sIf, gN, gT, gsCons, gsNil, cVar, cC, cBin, cUn, cNil, cCons, cApp, cB, cTr, cAnd, cOr, cNot, cV, cAndV, cOrV, cNotV, cIf, nD, mkTup, mkLst, mkBox, asQ, asL, negD, addD, subD, cmpD, isND, notND, eqD, neD, eqS, lenD, tupleD, DL.intD, cM, apnd, popM, sPar, sPar3, sNext, sAug, ipD, e7]) ?_)
    generalize hmn : 1 + v7 = many
    have h60 : d * ((many + 1) / 2) ≤ 60 := by
      have h1 : d ≤ 3 := by omega
      have h2 : (many + 1) / 2 ≤ 4 := by omega
      have := Nat.mul_le_mul h1 h2
      omega
    have hlev := pump_levels (d := d) (f := f) (many := many) hd0 hfl (by omega) h60 [F, c7]
    have hal : f__law_alike [.int (d * ((many + 1) / 2) : Nat), .int (d * ((many + 1) / 2) : Nat)] [F, c7] = some (.bl true, [F, c7]) := alike_ok 4 rfl
    have hm2 : (((many : Int) + 1) / 2) = (((many + 1) / 2 : Nat) : Int) := by omega
    refine Ev.ret (d := .bl true) (S' := [F, c7]) (cApp_of (cCons_of (cApp_of (cCons_of rfl (cCons_of rfl (cCons_of rfl (cCons1 rfl)))) (nD_of hlev rfl)) (cCons1 (cBin_of rfl (cBin_of (cBin_of rfl rfl rfl) rfl (fdiv_s (by omega) (by omega))) (mul_l (by omega) (by omega))))) (nD_of (by rw [hm2, ← Int.natCast_mul]; exact hal) rfl)) ⟨_, _, [], rfl, s7, rfl, rfl⟩
end K84

/-! k84: thrift, wide, the law. -/
namespace K84
open PySem PySem.Spec PyProof.Rows L2 DL BK

theorem few_U {b : Bk} {q : Pol} {z : Sz} {st : Plc} {most : Nat} {U : List Plc} (hU : ∀ k p, k < most → G.R (scQ b q z) st k p → p ∈ U) (hl : U.length ≤ 9000) : Few b q z st most := fun k hk hq => by
  have B := run_bi hq
  have := G.nodup_le (G.keys (runQ b q z st k).1) U B.nd fun p hp => let ⟨n, h1, h2⟩ := B.key p hp; hU n p (by omega) h2
  rw [keys_len] at this
  omega
/-! thrift -/
def TB (e : Nat) : Bk := ⟨1, [("house", [⟨"use", [0 - (e : Int)], 1⟩, ⟨"fill", [1], 1⟩]), ("outside", [⟨"draw", [-1], 0⟩, ⟨"none", [0], 0⟩])]⟩
theorem tb_w (e : Nat) : WB (TB e) := by
  refine ⟨show 1 ≤ 1 by omega, show 1 ≤ 100 by omega, show 2 ≤ 1000 by omega, ?_, ?_, ?_, ?_⟩
  · intro s hs
    simp only [TB, List.mem_cons, List.not_mem_nil, or_false] at hs
    rcases hs with rfl | rfl <;> simp
  · intro s hs m hm
    simp only [TB, List.mem_cons, List.not_mem_nil, or_false] at hs
    rcases hs with rfl | rfl <;> · simp only [List.mem_cons, List.not_mem_nil, or_false] at hm; rcases hm with rfl | rfl <;> rfl
  · intro s hs m hm
    simp only [TB, List.mem_cons, List.not_mem_nil, or_false] at hs
    rcases hs with rfl | rfl <;> · simp only [List.mem_cons, List.not_mem_nil, or_false] at hm; rcases hm with rfl | rfl <;> simp [TB]
  · intro s hs
    simp only [TB, List.mem_cons, List.not_mem_nil, or_false] at hs
    rcases hs with rfl | rfl <;> simp
theorem tb_9 (e s : Nat) : (mvs (TB e) s).length ≤ 9 := by
  match s with
  | 0 => simp [mvs, TB]
  | 1 => simp [mvs, TB]
  | s + 2 => simp [mvs, TB]
theorem tb_o {e a c : Nat} (ha : a < 2) (hc : c < 2) : ordOk (TB e) [[a, c], []] := by
  refine .cons ⟨fun _ => rfl, fun k hk => ?_⟩ (.cons ⟨fun z => absurd z hne_oh, by simp⟩ .nil)
  show k < 2
  simp only [List.mem_cons, List.not_mem_nil, or_false] at hk
  omega
theorem dry1 {x : Int} : dry [x] = decide (x < 0) := by simp [dry]
def TInv (L j : Nat) (p : Plc) : Prop := ∃ x : Int, p.2 = [x] ∧ x ≤ L + j ∧ ((p.1 = 0 ∧ 0 ≤ x) ∨ (p.1 = 1 ∧ 1 ≤ x))
theorem tb_pk {e : Nat} {x : Int} (hx : 0 ≤ x) : pkO (TB e) [[1, 0], []] (0, [x]) = 1 := by
  have h : findO (TB e) 0 [x] (rowA [[1, 0], []] 0) = some 1 := by
    have e1 : rowA [[1, 0], []] 0 = [1, 0] := rfl
    rw [e1]
    have : dry (add [x] (mvA (TB e) 0 1).p) = false := by
      show dry [x + 1] = false
      rw [dry1, decide_eq_false_iff_not]
      omega
    simp [findO, List.find?_cons, this]
  show (findO (TB e) 0 [x] (rowA [[1, 0], []] 0)).getD _ = 1
  rw [h]
  rfl
theorem tb_n0 {e : Nat} {x : Int} (hx : 0 ≤ x) : numsQ (TB e) (.ord [[1, 0], []]) (0, [x]) = [1] := by
  have h1 : mvs (TB e) 0 ≠ [] := by simp [mvs, TB]
  have h2 : own (TB e) 0 = "house" := rfl
  show numsG _ _ _ = _
  unfold numsG
  rw [if_neg h1, if_pos h2]
  show [pkO (TB e) [[1, 0], []] (0, [x])] = [1]
  rw [tb_pk hx]
theorem tb_n1 {e : Nat} {l : Lv} : numsQ (TB e) (.ord [[1, 0], []]) (1, l) = [0, 1] := by
  have h1 : mvs (TB e) 1 ≠ [] := by simp [mvs, TB]
  have h2 : ¬ own (TB e) 1 = "house" := hne_oh
  show numsG _ _ _ = _
  unfold numsG
  rw [if_neg h1, if_neg h2]
  rfl
theorem tinv_R {e L j : Nat} {p : Plc} (h : G.R (scQ (TB e) (.ord [[1, 0], []]) none) (0, [(L : Int)]) j p) : TInv L j p := by
  induction h with
  | zero => exact ⟨L, rfl, by omega, .inl ⟨rfl, by omega⟩⟩
  | @succ k u r n hr e' ih =>
    obtain ⟨h1, h2, h3⟩ := sc_mem e'
    simp only at h1 h2 h3
    obtain ⟨us, ul⟩ := u
    obtain ⟨x, rfl, hb, hi⟩ := ih
    rcases hi with ⟨rfl, hi⟩ | ⟨rfl, hi⟩
    · rw [tb_n0 hi] at h1
      simp only [List.mem_cons, List.not_mem_nil, or_false] at h1
      subst h1
      exact ⟨x + 1, by rw [h3]; rfl, by omega, .inr ⟨by rw [h3]; rfl, by omega⟩⟩
    · rw [tb_n1] at h1
      simp only [List.mem_cons, List.not_mem_nil, or_false] at h1
      rcases h1 with rfl | rfl
      · exact ⟨x + -1, by rw [h3]; rfl, by omega, .inl ⟨by rw [h3]; rfl, by omega⟩⟩
      · exact ⟨x + 0, by rw [h3]; rfl, by omega, .inl ⟨by rw [h3]; rfl, by omega⟩⟩
theorem tb_no {e L j : Nat} {p : Plc} (h : G.R (scQ (TB e) (.ord [[1, 0], []]) none) (0, [(L : Int)]) j p) : exQ (TB e) (.ord [[1, 0], []]) p = false := by
  obtain ⟨ps, pl⟩ := p
  obtain ⟨x, rfl, hb, hi⟩ := tinv_R h
  unfold exQ
  rw [← Bool.not_eq_true, List.any_eq_true]
  rintro ⟨n, hn, hdr⟩
  rcases hi with ⟨rfl, hi⟩ | ⟨rfl, hi⟩
  · rw [tb_n0 hi] at hn
    simp only [List.mem_cons, List.not_mem_nil, or_false] at hn
    subst hn
    have : dry [x + 1] = true := hdr
    rw [dry1, decide_eq_true_eq] at this
    omega
  · rw [tb_n1] at hn
    simp only [List.mem_cons, List.not_mem_nil, or_false] at hn
    rcases hn with rfl | rfl
    · have : dry [x + -1] = true := hdr
      rw [dry1, decide_eq_true_eq] at this
      omega
    · have : dry [x + 0] = true := hdr
      rw [dry1, decide_eq_true_eq] at this
      omega
theorem tb_few {e L most : Nat} (hL : L ≤ 20) (hm : most ≤ 20) : Few (TB e) (.ord [[1, 0], []]) none (0, [(L : Int)]) most := by
  refine few_U (U := ubx 2 [((40 : Nat) : Int)]) (fun k p hk hr => ?_) (by rw [ubx_len, bxs_len]; decide)
  obtain ⟨ps, pl⟩ := p
  obtain ⟨x, rfl, hb, hi⟩ := tinv_R hr
  refine mem_ubx (by rcases hi with ⟨h, _⟩ | ⟨h, _⟩ <;> · have h' : ps = _ := h; show ps < 2; omega) ⟨rfl, fun t ht => ?_⟩
  match t, ht with
  | 0, _ =>
    show 0 ≤ gt [x] 0 ∧ gt [x] 0 ≤ gt [((40 : Nat) : Int)] 0
    simp only [gt, List.getD_cons_zero]
    rcases hi with ⟨_, h⟩ | ⟨_, h⟩ <;> omega
theorem tb_st {e L : Nat} : PlW (TB e) (0, [(L : Int)]) := ⟨show 0 < 2 by omega, rfl⟩
theorem thrift_ok {F c : Cell} (h : Sp F c) : SpF f__law_thrift [.ref 1] F c [] fun d => d = .bl true := by
  have z0 : (0 : Nat) ≤ sizeLine := Nat.zero_le _
  have z1 : (1 : Nat) ≤ sizeLine := by rw [sizeLine_eq]; omega
  have z2 : (2 : Nat) ≤ sizeLine := by rw [sizeLine_eq]; omega
  have z3 : (3 : Nat) ≤ sizeLine := by rw [sizeLine_eq]; omega
  refine spF_ev ?_
  unfold c__law_thrift
  obtain ⟨d1, c1, e1, s1, v1, rfl, b1⟩ := roll_ok (T := []) (m := 4) h (by omega)
  refine Ev.seq (Ev.setN (d := .int ((1 + v1 : Nat) : Int)) (S' := [F, c1]) (by simp [sSeq, sSet, sRet, sExpr, sIf, gN, gT, gsCons, gsNil, cVar, cC, cBin, cUn, cNil, cCons, cApp, cB, cTr, cAnd, cOr, cNot, cV, cAndV, cOrV, cNotV, cIf, nD, mkTup, mkLst, mkBox, asQ, asL, negD, addD, subD, cmpD, isND, notND, eqD, neD, eqS, lenD, tupleD, DL.intD, cM, apnd, popM, sPar, sPar3, sNext, sAug, ipD, e1]) ?_)
  generalize hd : 1 + v1 = e
  refine Ev.seq (Ev.setN (d := eB (TB e)) (S' := [F, c1]) (by simp [sSeq, sSet, sRet, sExpr, sIf, gN, gT, gsCons, gsNil, cVar, cC, cBin, cUn, cNil, cCons, cApp, cB, cTr, cAnd, cOr, cNot, cV, cAndV, cOrV, cNotV, cIf, nD, mkTup, mkLst, mkBox, asQ, asL, negD, addD, subD, cmpD, isND, notND, eqD, neD, eqS, lenD, tupleD, DL.intD, cM, apnd, popM, sPar, sPar3, sNext, sAug, ipD, z1, z2, z3, eB, TB, eS, eM, eL]) ?_)
  obtain ⟨d2, c2, e2, s2, v2, rfl, b2⟩ := roll_ok (T := []) (m := 9) s1 (by omega)
  refine Ev.seq (Ev.setN (d := .int ((1 + v2 : Nat) : Int)) (S' := [F, c2]) (by simp [sSeq, sSet, sRet, sExpr, sIf, gN, gT, gsCons, gsNil, cVar, cC, cBin, cUn, cNil, cCons, cApp, cB, cTr, cAnd, cOr, cNot, cV, cAndV, cOrV, cNotV, cIf, nD, mkTup, mkLst, mkBox, asQ, asL, negD, addD, subD, cmpD, isND, notND, eqD, neD, eqS, lenD, tupleD, DL.intD, cM, apnd, popM, sPar, sPar3, sNext, sAug, ipD, e2]) ?_)
  generalize hL : 1 + v2 = L
  have hlev : ∀ (x4 x5 : Option D) (S : Store), cApp mkTup (cCons (cVar 3) cNil) [some (.ref 1), some (.int e), some (eB (TB e)), some (.int L), x4, x5] S = some (eL [(L : Int)], S) := fun x4 x5 S => by simp [sSeq, sSet, sRet, sExpr, sIf, gN, gT, gsCons, gsNil, cVar, cC, cBin, cUn, cNil, cCons, cApp, cB, cTr, cAnd, cOr, cNot, cV, cAndV, cOrV, cNotV, cIf, nD, mkTup, mkLst, mkBox, asQ, asL, negD, addD, subD, cmpD, isND, notND, eqD, neD, eqS, lenD, tupleD, DL.intD, cM, apnd, popM, sPar, sPar3, sNext, sAug, ipD, z1, eL]
  refine Ev.seq (Ev.for_ (S' := [F, c2]) (fun o : List (List Nat) => eO o) (fun os ρ S => ∃ (c' : Cell) (x4 : Option D), S = [F, c'] ∧ Sp F c' ∧ ρ = [some (.ref 1), some (.int e), some (eB (TB e)), some (.int L), x4, none] ∧ ∀ o ∈ os, ordOk (TB e) o)
    (l := [[[0, 1], []], [[1, 0], []]]) (xs := [eO [[0, 1], []], eO [[1, 0], []]]) (by simp [cItS, sSeq, sSet, sRet, sExpr, sIf, gN, gT, gsCons, gsNil, cVar, cC, cBin, cUn, cNil, cCons, cApp, cB, cTr, cAnd, cOr, cNot, cV, cAndV, cOrV, cNotV, cIf, nD, mkTup, mkLst, mkBox, asQ, asL, negD, addD, subD, cmpD, isND, notND, eqD, neD, eqS, lenD, tupleD, DL.intD, cM, apnd, popM, sPar, sPar3, sNext, sAug, ipD, z0, z2, itSeq, eO, eN]) rfl ⟨c2, none, rfl, s2, rfl, fun o ho => by
      simp only [List.mem_cons, List.not_mem_nil, or_false] at ho
      rcases ho with rfl | rfl
      · exact tb_o (by omega) (by omega)
      · exact tb_o (by omega) (by omega)⟩ ?_ ?_)
  · rintro o os ρ S ⟨c3, x4, rfl, s3, rfl, ho⟩
    have ho1 := ho o (by simp)
    refine ⟨_, rfl, ?_⟩
    have hb := lbeaten_ok (tb_w e) (tb_9 e) ho1 (tb_st (L := L)) (most := 12) (by omega) (S := [F, c3])
    obtain ⟨d4, c4, e4, s4, v4, rfl, b4⟩ := roll_ok (T := []) (m := 6) s3 (by omega)
    have he := enough_ok (tb_w e) (tb_9 e) ho1 (s := 0) (many := v4) (top := 61) (show 0 < 2 by omega) (by omega) (.inl (by omega)) (S := [F, c4])
    exact Ev.ifF (S' := [F, c4]) (cOr_f (cNot_of (c := true) (cB_of (cApp_of (cCons_of rfl (cCons_of rfl (cCons_of (hlev _ _ _) (cCons_of rfl (cCons1 rfl))))) (nD_of hb rfl)))) (cNot_of (c := true) (cB_of (cApp_of (cCons_of rfl (cCons_of rfl (cCons_of rfl (cCons_of (cApp_of (cCons_of rfl (cCons1 rfl)) (nD_of e4 rfl)) (cCons1 rfl))))) (nD_of he rfl))))) (Ev.next ⟨c4, _, rfl, s4, rfl, fun o ho' => ho o (by simp [ho'])⟩)
  · rintro ρ S ⟨c3, x4, rfl, s3, rfl, ho⟩
    have hord : ∀ (x4 x5 : Option D) (S : Store), cApp mkTup (cCons (cApp mkTup (cCons (cC (.int 1)) (cCons (cC (.int 0)) cNil))) (cCons (cApp mkTup cNil) cNil)) [some (.ref 1), some (.int e), some (eB (TB e)), some (.int L), x4, x5] S = some (eO [[1, 0], []], S) := fun x4 x5 S => by simp [sSeq, sSet, sRet, sExpr, sIf, gN, gT, gsCons, gsNil, cVar, cC, cBin, cUn, cNil, cCons, cApp, cB, cTr, cAnd, cOr, cNot, cV, cAndV, cOrV, cNotV, cIf, nD, mkTup, mkLst, mkBox, asQ, asL, negD, addD, subD, cmpD, isND, notND, eqD, neD, eqS, lenD, tupleD, DL.intD, cM, apnd, popM, sPar, sPar3, sNext, sAug, ipD, z0, z2, eO, eN]
    obtain ⟨r, a1, hf⟩ := beaten_ok (tb_w e) (tb_9 e) (tb_o (a := 1) (c := 0) (by omega) (by omega)) (tb_st (L := L)) (most := 12) (by omega) (tb_few (by omega) (by omega)) (S := [F, c3])
    have hr : r = none := by
      cases r with
      | none => rfl
      | some pl =>
        obtain ⟨ns, n, p, h1, h2, h3, h4, h5, h6⟩ := hf
        have := tb_no h3.r
        unfold exQ at this
        rw [← Bool.not_eq_true, List.any_eq_true] at this
        exact absurd ⟨n, h4, h5⟩ this
    subst hr
    refine Ev.seq (Ev.setN (d := .non) (S' := [F, c3]) (cApp_of (cCons_of rfl (cCons_of rfl (cCons_of (hlev _ _ _) (cCons_of (hord _ _ _) (cCons1 rfl))))) (nD_of a1 rfl)) ?_)
    have hs0 : Safe (TB e) (.ord [[1, 0], []]) none 9 0 0 := fun j hj p hr => tb_no (L := 0) hr
    obtain ⟨r, a2, hr⟩ := ordLev_ok (tb_w e) (tb_9 e) (tb_o (a := 1) (c := 0) (by omega) (by omega)) (s := 0) (many := 9) (show 0 < 2 by omega) (by omega) (fun m hm hb => by
      cases m with
      | zero => exact tb_few (L := 0) (by omega) (by omega)
      | succ m => exact absurd hs0 (hb 0 (by omega))) (S := [F, c3])
    have hr0 : r = some 0 := by
      cases r with
      | none => exact absurd hs0 (hr 0 (by omega))
      | some m =>
        cases m with
        | zero => rfl
        | succ m => exact absurd hs0 (hr.2.2 0 (by omega))
    subst hr0
    have hal : f__law_alike [.int (0 : Nat), .int (0 : Nat)] [F, c3] = some (.bl true, [F, c3]) := alike_ok 4 rfl
    refine Ev.ret (d := .bl true) (S' := [F, c3]) ?_ ⟨_, _, [], rfl, s3, rfl, rfl⟩
    have g1 : cBin isND (cVar 5) (cC .non) [some (.ref 1), some (.int e), some (eB (TB e)), some (.int L), x4, some .non] [F, c3] = some (.bl true, [F, c3]) := rfl
    show cAndV _ _ [some (.ref 1), some (.int e), some (eB (TB e)), some (.int L), x4, some .non] [F, c3] = _
    unfold cAndV
    rw [g1]
    exact cApp_of (cCons_of (cApp_of (cCons_of rfl (cCons_of rfl (cCons_of (hord _ _ _) (cCons1 rfl)))) (nD_of a2 rfl)) (cCons1 rfl)) (nD_of hal rfl)
end K84

/-! k84: wide, the law. -/
namespace K84
open PySem PySem.Spec PyProof.Rows L2 DL BK

/-- one standing of the outside, with two moves -/
def OB (w1 w2 : Str) (x y : Int) : Bk := ⟨1, [("outside", [⟨w1, [x], 0⟩, ⟨w2, [y], 0⟩])]⟩
theorem ob_w (w1 w2 : Str) (x y : Int) : WB (OB w1 w2 x y) := by
  refine ⟨show 1 ≤ 1 by omega, show 1 ≤ 100 by omega, show 1 ≤ 1000 by omega, ?_, ?_, ?_, ?_⟩
  · intro s hs
    simp only [OB, List.mem_cons, List.not_mem_nil, or_false] at hs
    subst hs; simp
  · intro s hs m hm
    simp only [OB, List.mem_cons, List.not_mem_nil, or_false] at hs
    subst hs; simp only [List.mem_cons, List.not_mem_nil, or_false] at hm; rcases hm with rfl | rfl <;> rfl
  · intro s hs m hm
    simp only [OB, List.mem_cons, List.not_mem_nil, or_false] at hs
    subst hs; simp only [List.mem_cons, List.not_mem_nil, or_false] at hm; rcases hm with rfl | rfl <;> simp [OB]
  · intro s hs
    simp only [OB, List.mem_cons, List.not_mem_nil, or_false] at hs
    subst hs; simp
theorem ob_9 (w1 w2 : Str) (x y : Int) (s : Nat) : (mvs (OB w1 w2 x y) s).length ≤ 9 := by
  match s with
  | 0 => simp [mvs, OB]
  | s + 1 => simp [mvs, OB]
theorem ob_o {w1 w2 : Str} {x y : Int} : ordOk (OB w1 w2 x y) [[]] := .cons ⟨fun z => absurd z hne_oh, by simp⟩ .nil
theorem ob_n {w1 w2 : Str} {x y : Int} {q : Pol} {l : Lv} : numsQ (OB w1 w2 x y) q (0, l) = [0, 1] := by
  have h1 : mvs (OB w1 w2 x y) 0 ≠ [] := by simp [mvs, OB]
  have h2 : ¬ own (OB w1 w2 x y) 0 = "house" := hne_oh
  show numsG _ _ _ = _
  unfold numsG
  rw [if_neg h1, if_neg h2]
  rfl
theorem ob_ex {w1 w2 : Str} {x y : Int} {q : Pol} {m : Int} : exQ (OB w1 w2 x y) q (0, [m]) = (decide (m + x < 0) || decide (m + y < 0)) := by
  unfold exQ
  rw [ob_n]
  have a0 : aft (OB w1 w2 x y) (0, [m]) 0 = [m + x] := rfl
  have a1 : aft (OB w1 w2 x y) (0, [m]) 1 = [m + y] := rfl
  simp [a0, a1, dry1]
theorem ob_safe {w1 w2 : Str} {x y : Int} {m : Nat} : Safe (OB w1 w2 x y) (.ord [[]]) none 1 0 m ↔ 0 ≤ m + x ∧ 0 ≤ m + y := by
  unfold Safe
  have hrep : rep m (OB w1 w2 x y).T = [(m : Int)] := rfl
  rw [hrep]
  constructor
  · intro h
    have := h 0 (by omega) _ .zero
    rw [ob_ex] at this
    simp only [Bool.or_eq_false_iff, decide_eq_false_iff_not] at this
    omega
  · intro h j hj p hr
    have : j = 0 := by omega
    subst this
    cases hr
    rw [ob_ex]
    simp only [Bool.or_eq_false_iff, decide_eq_false_iff_not]
    omega
theorem few1 {b : Bk} {q : Pol} {z : Sz} {st : Plc} : Few b q z st 1 := fun k hk _ => by
  have : k = 0 := by omega
  subst this
  simp [runQ]
theorem few0 {b : Bk} {q : Pol} {z : Sz} {st : Plc} : Few b q z st 0 := fun k hk _ => by omega
theorem ob_lev {w1 w2 : Str} {x y : Int} (S : Store) : ∃ r, f_order_levels [eB (OB w1 w2 x y), .int (0 : Nat), eO [[]], .int (1 : Nat)] S = some (eON r, S) ∧ (match r with | none => ∀ m : Nat, m ≤ 60 → ¬ (0 ≤ m + x ∧ 0 ≤ m + y) | some m => (m ≤ 60 ∧ (0 ≤ m + x ∧ 0 ≤ m + y) ∧ ∀ m' : Nat, m' < m → ¬ (0 ≤ m' + x ∧ 0 ≤ m' + y))) := by
  obtain ⟨r, e, hr⟩ := ordLev_ok (ob_w w1 w2 x y) (ob_9 w1 w2 x y) ob_o (s := 0) (many := 1) (show 0 < 1 by omega) (by omega) (fun m _ _ => few1) (S := S)
  refine ⟨r, e, ?_⟩
  cases r with
  | none => exact fun m hm h => hr m hm (ob_safe.mpr h)
  | some m => exact ⟨hr.1, ob_safe.mp hr.2.1, fun m' h z => hr.2.2 m' h (ob_safe.mpr z)⟩
theorem ob_lev0 {w1 w2 : Str} {x y : Int} (S : Store) : f_order_levels [eB (OB w1 w2 x y), .int (0 : Nat), eO [[]], .int (0 : Nat)] S = some (.int (0 : Nat), S) := by
  obtain ⟨r, e, hr⟩ := ordLev_ok (ob_w w1 w2 x y) (ob_9 w1 w2 x y) ob_o (s := 0) (many := 0) (show 0 < 1 by omega) (by omega) (fun m _ _ => few0) (S := S)
  have hs0 : Safe (OB w1 w2 x y) (.ord [[]]) none 0 0 0 := fun j hj => by omega
  cases r with
  | none => exact absurd hs0 (hr 0 (by omega))
  | some m =>
    cases m with
    | zero => exact e
    | succ m => exact absurd hs0 (hr.2.2 0 (by omega))
theorem wide_ok {F c : Cell} (h : Sp F c) : SpF f__law_wide [.ref 1] F c [] fun d => d = .bl true := by
  have z0 : (0 : Nat) ≤ sizeLine := Nat.zero_le _
  have z1 : (1 : Nat) ≤ sizeLine := by rw [sizeLine_eq]; omega
  have z2 : (2 : Nat) ≤ sizeLine := by rw [sizeLine_eq]; omega
  have z3 : (3 : Nat) ≤ sizeLine := by rw [sizeLine_eq]; omega
  refine spF_ev ?_
  unfold c__law_wide
  obtain ⟨d1, c1, e1, s1, v1, rfl, b1⟩ := roll_ok (T := []) (m := 2) h (by omega)
  have hord : ∀ (ρ : Env') (S : Store), cApp mkTup (cCons (cApp mkTup cNil) cNil) ρ S = some (eO [[]], S) := fun ρ S => by simp [sSeq, sSet, sRet, sExpr, sIf, gN, gT, gsCons, gsNil, cVar, cC, cBin, cUn, cNil, cCons, cApp, cB, cTr, cAnd, cOr, cNot, cV, cAndV, cOrV, cNotV, cIf, nD, mkTup, mkLst, mkBox, asQ, asL, negD, addD, subD, cmpD, isND, notND, eqD, neD, eqS, lenD, tupleD, DL.intD, cM, apnd, popM, sPar, sPar3, sNext, sAug, ipD, z0, z1, eO, eN]
  refine Ev.seq (Ev.ite (c := decide (v1 = 0)) (S' := [F, c1]) (by simp [sSeq, sSet, sRet, sExpr, sIf, gN, gT, gsCons, gsNil, cVar, cC, cBin, cUn, cNil, cCons, cApp, cB, cTr, cAnd, cOr, cNot, cV, cAndV, cOrV, cNotV, cIf, nD, mkTup, mkLst, mkBox, asQ, asL, negD, addD, subD, cmpD, isND, notND, eqD, neD, eqS, lenD, tupleD, DL.intD, cM, apnd, popM, sPar, sPar3, sNext, sAug, ipD, e1]) (fun hv => ?_) (fun hv => Ev.next ?_))
  · obtain ⟨d2, c2, e2, s2, v2, rfl, b2⟩ := roll_ok (T := []) (m := 900) s1 (by omega)
    refine Ev.seq (Ev.setN (d := .int ((61 + v2 : Nat) : Int)) (S' := [F, c2]) (by simp [sSeq, sSet, sRet, sExpr, sIf, gN, gT, gsCons, gsNil, cVar, cC, cBin, cUn, cNil, cCons, cApp, cB, cTr, cAnd, cOr, cNot, cV, cAndV, cOrV, cNotV, cIf, nD, mkTup, mkLst, mkBox, asQ, asL, negD, addD, subD, cmpD, isND, notND, eqD, neD, eqS, lenD, tupleD, DL.intD, cM, apnd, popM, sPar, sPar3, sNext, sAug, ipD, e2]) ?_)
    generalize hg : 61 + v2 = g
    refine Ev.seq (Ev.setN (d := eB (OB "a" "b" (0 - (g : Int)) 0)) (S' := [F, c2]) (by simp [sSeq, sSet, sRet, sExpr, sIf, gN, gT, gsCons, gsNil, cVar, cC, cBin, cUn, cNil, cCons, cApp, cB, cTr, cAnd, cOr, cNot, cV, cAndV, cOrV, cNotV, cIf, nD, mkTup, mkLst, mkBox, asQ, asL, negD, addD, subD, cmpD, isND, notND, eqD, neD, eqS, lenD, tupleD, DL.intD, cM, apnd, popM, sPar, sPar3, sNext, sAug, ipD, z1, z2, z3, eB, OB, eS, eM, eL]) ?_)
    obtain ⟨r, a1, hr⟩ := ob_lev (w1 := "a") (w2 := "b") (x := 0 - (g : Int)) (y := 0) [F, c2]
    have hr0 : r = none := by
      cases r with
      | none => rfl
      | some m => have := hr.2.1.1; have := hr.1; omega
    subst hr0
    have a2 := ob_lev0 (w1 := "a") (w2 := "b") (x := 0 - (g : Int)) (y := 0) [F, c2]
    have hal : f__law_alike [.int (0 : Nat), .int (0 : Nat)] [F, c2] = some (.bl true, [F, c2]) := alike_ok 4 rfl
    refine Ev.seq (Ev.ifF (S' := [F, c2]) (cOr_f (cB_of (cBin_of (cApp_of (cCons_of rfl (cCons_of rfl (cCons_of (hord _ _) (cCons1 rfl)))) (nD_of a1 rfl)) rfl rfl)) (cNot_of (c := true) (cB_of (cApp_of (cCons_of (cApp_of (cCons_of rfl (cCons_of rfl (cCons_of (hord _ _) (cCons1 rfl)))) (nD_of a2 rfl)) (cCons1 rfl)) (nD_of hal rfl))))) (Ev.next ?_))
    obtain ⟨d3, c3, e3, s3, v3, rfl, b3⟩ := roll_ok (T := []) (m := 60) s2 (by omega)
    refine Ev.seq (Ev.setN (d := .int ((1 + v3 : Nat) : Int)) (S' := [F, c3]) (by simp [sSeq, sSet, sRet, sExpr, sIf, gN, gT, gsCons, gsNil, cVar, cC, cBin, cUn, cNil, cCons, cApp, cB, cTr, cAnd, cOr, cNot, cV, cAndV, cOrV, cNotV, cIf, nD, mkTup, mkLst, mkBox, asQ, asL, negD, addD, subD, cmpD, isND, notND, eqD, neD, eqS, lenD, tupleD, DL.intD, cM, apnd, popM, sPar, sPar3, sNext, sAug, ipD, e3]) ?_)
    generalize hm : 1 + v3 = m
    refine Ev.seq (Ev.setN (d := eB (OB "b" "a" 0 (0 - (m : Int)))) (S' := [F, c3]) (by simp [sSeq, sSet, sRet, sExpr, sIf, gN, gT, gsCons, gsNil, cVar, cC, cBin, cUn, cNil, cCons, cApp, cB, cTr, cAnd, cOr, cNot, cV, cAndV, cOrV, cNotV, cIf, nD, mkTup, mkLst, mkBox, asQ, asL, negD, addD, subD, cmpD, isND, notND, eqD, neD, eqS, lenD, tupleD, DL.intD, cM, apnd, popM, sPar, sPar3, sNext, sAug, ipD, z1, z2, z3, eB, OB, eS, eM, eL]) ?_)
    obtain ⟨r, a3, hr⟩ := ob_lev (w1 := "b") (w2 := "a") (x := 0) (y := 0 - (m : Int)) [F, c3]
    have hr0 : r = some m := by
      cases r with
      | none => exact absurd (⟨by omega, by omega⟩ : (0 : Int) ≤ (m : Nat) + 0 ∧ (0 : Int) ≤ (m : Nat) + (0 - (m : Int))) (hr m (by omega))
      | some m' =>
        obtain ⟨h1, h2, h3⟩ := hr
        congr 1
        rcases Nat.lt_trichotomy m m' with h | h | h
        · exact absurd (⟨by omega, by omega⟩ : (0 : Int) ≤ (m : Nat) + 0 ∧ (0 : Int) ≤ (m : Nat) + (0 - (m : Int))) (h3 m h)
        · exact h.symm
        · omega
    subst hr0
    have hal2 : f__law_alike [.int (m : Nat), .int (m : Nat)] [F, c3] = some (.bl true, [F, c3]) := alike_ok 4 rfl
    have hb := lbeaten_ok (ob_w "b" "a" 0 (0 - (m : Int))) (ob_9 "b" "a" 0 (0 - (m : Int))) ob_o (st := (0, [39 * (m : Int)])) ⟨show 0 < 1 by omega, rfl⟩ (most := 40) (by omega) (S := [F, c3])
    refine Ev.ret (d := .bl true) (S' := [F, c3]) ?_ ⟨_, _, [], rfl, s3, rfl, rfl⟩
    have g1 : cApp (nD 2 f__law_alike) (cCons (cApp (nD 4 f_order_levels) (cCons (cVar 2) (cCons (cC (.int 0)) (cCons (cApp mkTup (cCons (cApp mkTup cNil) cNil)) (cCons (cC (.int 1)) cNil))))) (cCons (cVar 3) cNil)) [some (.ref 1), some (.int g), some (eB (OB "b" "a" 0 (0 - (m : Int)))), some (.int m), none] [F, c3] = some (.bl true, [F, c3]) :=
      cApp_of (cCons_of (cApp_of (cCons_of rfl (cCons_of rfl (cCons_of (hord _ _) (cCons1 rfl)))) (nD_of a3 rfl)) (cCons1 rfl)) (nD_of hal2 rfl)
    show cAndV _ _ [some (.ref 1), some (.int g), some (eB (OB "b" "a" 0 (0 - (m : Int)))), some (.int m), none] [F, c3] = _
    unfold cAndV
    rw [g1]
    refine cApp_of (cCons_of rfl (cCons_of rfl (cCons_of (x := eL [39 * (m : Int)]) (S1 := [F, c3]) ?_ (cCons_of (hord _ _) (cCons1 rfl))))) (nD_of hb rfl)
    simp [sSeq, sSet, sRet, sExpr, sIf, gN, gT, gsCons, gsNil, cVar, cC, cBin, cUn, cNil, cCons, cApp, cB, cTr, cAnd, cOr, cNot, cV, cAndV, cOrV, cNotV, cIf, nD, mkTup, mkLst, mkBox, asQ, asL, negD, addD, subD, cmpD, isND, notND, eqD, neD, eqS, lenD, tupleD, DL.intD, cM, apnd, popM, sPar, sPar3, sNext, sAug, ipD, mul_l (a := 39) (b := (m : Int)) (by omega) (by omega), z1, eL]
  · obtain ⟨d2, c2, e2, s2, b, rfl, D⟩ := book_ok (T := 1) (n := 12) (w := 2) (m := 3) s1 (by omega) (by omega) (by omega) (by omega) (by omega) (by omega) (by omega)
    have h9 : ∀ s, (mvs b s).length ≤ 9 := fun s => by
      unfold mvs
      split
      · rename_i x hx
        exact Nat.le_trans (D.m x (List.mem_of_getElem? hx)) (by omega)
      · simp
    refine Ev.seq (Ev.setN (d := eB b) (S' := [F, c2]) (cApp_of (cCons_of rfl (cCons_of rfl (cCons_of rfl (cCons_of rfl (cCons1 rfl))))) (nD_of e2 rfl)) ?_)
    obtain ⟨d3, c3, e3, s3, o, rfl, ho⟩ := order_ok D.wb s2
    refine Ev.seq (Ev.setN (d := eO o) (S' := [F, c3]) (cApp_of (cCons_of rfl (cCons1 rfl)) (nD_of e3 rfl)) ?_)
    obtain ⟨d4, c4, e4, s4, s, rfl, b4⟩ := roll_ok (T := []) (m := 12) s3 (by omega)
    obtain ⟨d5, c5, e5, s5, v5, rfl, b5⟩ := roll_ok (T := []) (m := 9) s4 (by omega)
    have hb := lbeaten_ok D.wb h9 ho (st := (s, [((3 + v5 : Nat) : Int)])) ⟨by rw [D.n]; omega, by rw [D.t]; rfl⟩ (most := 40) (by omega) (S := [F, c5])
    refine Ev.ret (d := .bl true) (S' := [F, c5]) (cApp_of (cCons_of rfl (cCons_of (cApp_of (cCons_of rfl (cCons1 rfl)) (nD_of e4 rfl)) (cCons_of (x := eL [((3 + v5 : Nat) : Int)]) (S1 := [F, c5]) ?_ (cCons_of rfl (cCons1 rfl))))) (nD_of hb rfl)) ⟨_, _, [], rfl, s5, rfl, rfl⟩
    simp [sSeq, sSet, sRet, sExpr, sIf, gN, gT, gsCons, gsNil, cVar, cC, cBin, cUn, cNil, cCons, cApp, cB, cTr, cAnd, cOr, cNot, cV, cAndV, cOrV, cNotV, cIf, nD, mkTup, mkLst, mkBox, asQ, asL, negD, addD, subD, cmpD, isND, notND, eqD, neD, eqS, lenD, tupleD, DL.intD, cM, apnd, popM, sPar, sPar3, sNext, sAug, ipD, e5, z1, eL]
theorem plain (ns : List Int) (hn : ns.length ≤ 63) : ∃ S', f_law [.scr (ns.map D.int)] [] = some (.bl true, S') := by
  obtain ⟨F, c, e0, s0⟩ := spool_ok (ns := ns)
  refine ⟨[], call_ev ?_ rfl⟩
  unfold c_law
  refine Ev.seq (Ev.setN (d := .ref 1) (S' := [F, c]) (cApp_of (cCons1 rfl) (nD_of e0 rfl)) ?_)
  obtain ⟨d1, c1, e1, s1, rfl⟩ := pump_ok s0
  obtain ⟨d2, c2, e2, s2, rfl⟩ := thrift_ok s1
  refine Ev.seq (Ev.ifF (S' := [F, c2]) (cOr_f (cNot_of (c := true) (cB_of (cApp_of (cCons1 rfl) (nD_of e1 rfl)))) (cNot_of (c := true) (cB_of (cApp_of (cCons1 rfl) (nD_of e2 rfl))))) (Ev.next ?_))
  refine Ev.seq (Ev.for_ (S' := [F, c2]) (fun k : Nat => .int (k : Nat)) (fun ks ρ S => ∃ (c' : Cell) (x2 x3 x4 : Option D), S = [F, c'] ∧ Sp F c' ∧ ρ = [some (.scr (ns.map D.int)), some (.ref 1), x2, x3, x4])
    (rng1 (n := 3) rfl (by omega)) rfl ⟨c2, none, none, none, rfl, s2, rfl⟩ ?_ ?_)
  · rintro k ks ρ S ⟨c3, x2, x3, x4, rfl, s3, rfl⟩
    refine ⟨_, rfl, ?_⟩
    obtain ⟨d4, c4, e4, s4, v4, rfl, b4⟩ := roll_ok (T := []) (m := 2) s3 (by omega)
    refine Ev.seq (Ev.setN (d := .int ((1 + v4 : Nat) : Int)) (S' := [F, c4]) (by simp [sSeq, sSet, sRet, sExpr, sIf, gN, gT, gsCons, gsNil, cVar, cC, cBin, cUn, cNil, cCons, cApp, cB, cTr, cAnd, cOr, cNot, cV, cAndV, cOrV, cNotV, cIf, nD, mkTup, mkLst, mkBox, asQ, asL, negD, addD, subD, cmpD, isND, notND, eqD, neD, eqS, lenD, tupleD, DL.intD, cM, apnd, popM, sPar, sPar3, sNext, sAug, ipD, e4]) ?_)
    generalize hT : 1 + v4 = T
    obtain ⟨d5, c5, e5, s5, v5, rfl, b5⟩ := roll_ok (T := []) (m := 4) s4 (by omega)
    obtain ⟨d6, c6, e6, s6, b, rfl, Db⟩ := book_ok (T := T) (n := 1 + v5) (w := 3) (m := 3) s5 (by omega) (by omega) (by omega) (by omega) (by omega) (by omega) (by omega)
    have e6' : f__law_book [.ref 1, .int T, .int (1 + (v5 : Int)), .int 3, .int 3] [F, c5] = some (eB b, [F, c6]) := by
      rw [← e6]
      congr 1
    refine Ev.seq (Ev.setN (d := eB b) (S' := [F, c6]) (cApp_of (cCons_of rfl (cCons_of rfl (cCons_of (cBin_of rfl (cApp_of (cCons_of rfl (cCons1 rfl)) (nD_of e5 rfl)) rfl) (cCons_of rfl (cCons1 rfl))))) (nD_of e6' rfl)) ?_)
    obtain ⟨mo, hmo, hmo8⟩ : ∃ mo : Nat, cIf (cB (cBin eqD (cVar 3) (cC (.int 1)))) (cC (.int 8)) (cC (.int 6)) [some (.scr (ns.map D.int)), some (.ref 1), some (.int k), some (.int T), some (eB b)] [F, c6] = some (.int mo, [F, c6]) ∧ mo ≤ 8 := by
      by_cases hT1 : T = 1
      · exact ⟨8, cIf_t (cB_of (cBin_of rfl rfl (by rw [hT1]; rfl))) rfl, by omega⟩
      · exact ⟨6, cIf_f (cB_of (cBin_of rfl rfl (by simp [eqD, eqS]; omega))) rfl, by omega⟩
    obtain ⟨d7, c7, e7, s7, rfl⟩ := asked_ok (most := mo) s6 Db (by omega) (by omega) hmo8
    obtain ⟨d8, c8, e8, s8, rfl⟩ := rules_ok s7 Db (by omega) (by omega) (by omega) (by omega)
    exact Ev.ifF (S' := [F, c8]) (cOr_f (cNot_of (c := true) (cB_of (cApp_of (cCons_of rfl (cCons_of rfl (cCons1 (by exact hmo)))) (nD_of e7 rfl)))) (cNot_of (c := true) (cB_of (cApp_of (cCons_of rfl (cCons1 rfl)) (nD_of e8 rfl))))) (Ev.next ⟨c8, _, _, _, rfl, s8, rfl⟩)
  · rintro ρ S ⟨c3, x2, x3, x4, rfl, s3, rfl⟩
    obtain ⟨d4, c4, e4, s4, v4, rfl, b4⟩ := roll_ok (T := []) (m := 11) s3 (by omega)
    have g1 : cBin neD (cApp (nD 2 f__law_roll) (cCons (cVar 1) (cCons (cC (.int 11)) cNil))) (cC (.int 4)) [some (.scr (ns.map D.int)), some (.ref 1), x2, x3, x4] [F, c3] = some (.bl (!decide ((v4 : Int) = 4)), [F, c4]) := cBin_of (cApp_of (cCons_of rfl (cCons1 rfl)) (nD_of e4 rfl)) rfl rfl
    by_cases hv : (v4 : Int) = 4
    · obtain ⟨d5, c5, e5, s5, rfl⟩ := wide_ok s4
      refine Ev.ret (d := .bl true) (S' := [F, c5]) ?_ ⟨[F, c5], rfl⟩
      unfold cOrV
      rw [g1, decide_eq_true hv]
      exact cApp_of (cCons1 rfl) (nD_of e5 rfl)
    · refine Ev.ret (d := .bl true) (S' := [F, c4]) ?_ ⟨[F, c4], rfl⟩
      unfold cOrV
      rw [g1, decide_eq_false hv]
      rfl
end K84

namespace K84
open PySem PySem.Spec PyProof.Rows L2 DL
def top (i : Nat) : Stmt := PySem.Challenge.pw_nonerunsdry_k84_whole_orders.main.body.getD i (.Pass ⟨0, 0, 0, 0⟩)
structure Tx (K : PySem.W.Frag) (mg : Str → Option Value) : Prop where
  b_len : mg "len" = none
  b_range : mg "range" = none
  b_tuple : mg "tuple" = none
  b_zip : mg "zip" = none
  b_any : mg "any" = none
  b_min : mg "min" = none
  b_isinstance : mg "isinstance" = none
  b_int : mg "int" = none
  b_abs : mg "abs" = none
  b_str : mg "str" = none
  b_enumerate : mg "enumerate" = none
  b_bool : mg "bool" = none
  b_list : mg "list" = none
  b_sum : mg "sum" = none
  g_LEVELS_MOST : ∃ u, mg "LEVELS_MOST" = some u ∧ RelV (.int 60) u
  d__law_roll : DefAt K mg "_law_roll" (top 24)
  d__law_poured : DefAt K mg "_law_poured" (top 29)
  d__law_spilt : DefAt K mg "_law_spilt" (top 33)
  d__law_ruled : DefAt K mg "_law_ruled" (top 30)
  d__law_pick : DefAt K mg "_law_pick" (top 31)
  d__law_turns : DefAt K mg "_law_turns" (top 32)
  d__law_right : DefAt K mg "_law_right" (top 35)
  d_is_rest : DefAt K mg "is_rest" (top 3)
  d_moves_of : DefAt K mg "moves_of" (top 2)
  d_poured : DefAt K mg "poured" (top 5)
  d_is_dry : DefAt K mg "is_dry" (top 7)
  d_ordered_move : DefAt K mg "ordered_move" (top 12)
  d_owner_of : DefAt K mg "owner_of" (top 1)
  d_numbers_at : DefAt K mg "numbers_at" (top 13)
  d_led_back : DefAt K mg "led_back" (top 9)
  d_beaten_within : DefAt K mg "beaten_within" (top 14)
  d__law_fewest : DefAt K mg "_law_fewest" (top 34)
  d__law_beaten : DefAt K mg "_law_beaten" (top 36)
  d__law_wont : DefAt K mg "_law_wont" (top 25)
  d__law_order : DefAt K mg "_law_order" (top 28)
  d__law_book : DefAt K mg "_law_book" (top 27)
  d_order_levels : DefAt K mg "order_levels" (top 15)
  d__law_alike : DefAt K mg "_law_alike" (top 26)
  d__law_wide : DefAt K mg "_law_wide" (top 42)
  d__law_enough : DefAt K mg "_law_enough" (top 38)
  d__law_asked : DefAt K mg "_law_asked" (top 39)
  d_worth_by : DefAt K mg "worth_by" (top 17)
  d_rule_move : DefAt K mg "rule_move" (top 18)
  d_numbers_by : DefAt K mg "numbers_by" (top 19)
  d_lesser_of : DefAt K mg "lesser_of" (top 6)
  d_rule_dries : DefAt K mg "rule_dries" (top 20)
  d_rule_keeps : DefAt K mg "rule_keeps" (top 21)
  d__law_rules : DefAt K mg "_law_rules" (top 37)
  d__law_pump : DefAt K mg "_law_pump" (top 40)
  d__law_thrift : DefAt K mg "_law_thrift" (top 41)
  d__law_spool : DefAt K mg "_law_spool" (top 23)
  d_law : DefAt K mg "law" (top 43)
variable {P : Program} {w : World} {K : PySem.W.Frag} {mg : Str → Option Value} {base : Heap}
abbrev N__law_roll : List Str := ["spool", "many"]
theorem sc__law_roll : FnScope N__law_roll ["spool", "many"] (defScope (top 24)) := ⟨rfl, rfl, rfl, by decide +kernel, rfl, by decide +kernel, by decide +kernel⟩
theorem ok__law_roll (T : Tx K mg)  : DefOk P w K mg base "_law_roll" 1 ["spool", "many"] f__law_roll := by
  obtain ⟨f, fd, F, hm⟩ := T.d__law_roll
  refine ⟨f, fd, fnD (N := N__law_roll) (c := c__law_roll) (k := 0) F sc__law_roll (fun cdv A outer s H E hr => ?_), hm, F.kp, F.bindsN fun _ _ _ _ _ _ us hl => match us, hl with | [_, _], _ => rfl, fdAt_of F⟩
  exact (pdss_cons (pds_if (pdt_lt (pd_dget hr.units (pd_var 0 (pv 0)) pd_str (fun _ _ => rfl)) (pd_len T.b_len (pda_cons (pd_dget hr.units (pd_var 0 (pv 0)) pd_str (fun _ _ => rfl)) pda_nil))) (pdss_cons (pds_dput hr.units (pd_var 0 (pv 0)) pd_str (pd_add (pd_dget hr.units (pd_var 0 (pv 0)) pd_str (fun _ _ => rfl)) pd_int))
  (pdss_one (pds_ret (pd_mod (pd_int' T.b_int (pda_cons (pd_ix (pd_dget hr.units (pd_var 0 (pv 0)) pd_str (fun _ _ => rfl)) (pd_sub (pd_dget hr.units (pd_var 0 (pv 0)) pd_str (fun _ _ => rfl)) pd_int)) pda_nil)) (pd_var 1 (pv 1)))))) pdss_nil)
  (pdss_cons (pds_dput hr.units (pd_var 0 (pv 0)) pd_str (pd_mod (pd_int' T.b_int (pda_cons (pd_add (pd_mul (pd_dget hr.units (pd_var 0 (pv 0)) pd_str (fun _ _ => rfl)) pd_int) pd_int) pda_nil)) pd_int))
  (pdss_one (pds_ret (pd_mod (pd_int' T.b_int (pda_cons (pd_fdiv (pd_dget hr.units (pd_var 0 (pv 0)) pd_str (fun _ _ => rfl)) pd_int) pda_nil)) (pd_var 1 (pv 1)))))))
abbrev N__law_poured : List Str := ["levels", "move", "k"]
theorem sc__law_poured : FnScope N__law_poured ["levels", "move"] (defScope (top 29)) := ⟨rfl, rfl, rfl, by decide +kernel, rfl, by decide +kernel, by decide +kernel⟩
theorem ok__law_poured (T : Tx K mg)  : DefOk P w K mg base "_law_poured" 1 ["levels", "move"] f__law_poured := by
  obtain ⟨f, fd, F, hm⟩ := T.d__law_poured
  refine ⟨f, fd, fnD (N := N__law_poured) (c := c__law_poured) (k := 0) F sc__law_poured (fun cdv A outer s H E hr => ?_), hm, F.kp, F.bindsN fun _ _ _ _ _ _ us hl => match us, hl with | [_, _], _ => rfl, fdAt_of F⟩
  exact (pdss_one (pds_ret (pd_tuple T.b_tuple (pda_cons (pd_lc false (own := [("k", 2)]) (ws := [2]) (g := (gN 2)) (t := tYesD) (e := (cBin addD (cBin ixD (cVar 0) (cVar 2)) (cBin ixD (cBin ixD (cVar 1) (cC (.int 1))) (cVar 2)))) rfl sc__law_poured.nd (pdi_range1 T.b_range (pd_len T.b_len (pda_cons (pd_var 0 (pv 0)) pda_nil))) (blkOk_by (own := [("k", 2)]) (N := N__law_poured) (sc := defScope (top 29)) (by decide +kernel)) (by decide) (fun _ _ _ _ _ => (pdg_name (i := 2) (pg_name (i := 2) sc__law_poured.nd rfl (by first | exact .inl rfl | exact .inr rfl)))) (fun _ _ _ _ _ => pdts_nil) (fun _ _ _ _ _ => (pd_add (pd_ix (pd_var 0 (pv 0)) (pd_var 2 (pv 2))) (pd_ix (pd_ix (pd_var 1 (pv 1)) pd_int) (pd_var 2 (pv 2)))))) pda_nil))))
abbrev N__law_spilt : List Str := ["levels", "sizes", "k"]
theorem sc__law_spilt : FnScope N__law_spilt ["levels", "sizes"] (defScope (top 33)) := ⟨rfl, rfl, rfl, by decide +kernel, rfl, by decide +kernel, by decide +kernel⟩
theorem ok__law_spilt (T : Tx K mg)  : DefOk P w K mg base "_law_spilt" 1 ["levels", "sizes"] f__law_spilt := by
  obtain ⟨f, fd, F, hm⟩ := T.d__law_spilt
  refine ⟨f, fd, fnD (N := N__law_spilt) (c := c__law_spilt) (k := 0) F sc__law_spilt (fun cdv A outer s H E hr => ?_), hm, F.kp, F.bindsN fun _ _ _ _ _ _ us hl => match us, hl with | [_, _], _ => rfl, fdAt_of F⟩
  exact (pdss_one (pds_ret (pd_if (pdt_isN (pd_var 1 (pv 1)) pd_non) (pd_var 0 (pv 0)) (pd_tuple T.b_tuple (pda_cons (pd_lc false (own := [("k", 2)]) (ws := [2]) (g := (gN 2)) (t := tYesD) (e := (cApp min2D (cCons (cBin ixD (cVar 0) (cVar 2)) (cCons (cBin ixD (cVar 1) (cVar 2)) cNil)))) rfl sc__law_spilt.nd (pdi_range1 T.b_range (pd_len T.b_len (pda_cons (pd_var 0 (pv 0)) pda_nil))) (blkOk_by (own := [("k", 2)]) (N := N__law_spilt) (sc := defScope (top 33)) (by decide +kernel)) (by decide) (fun _ _ _ _ _ => (pdg_name (i := 2) (pg_name (i := 2) sc__law_spilt.nd rfl (by first | exact .inl rfl | exact .inr rfl)))) (fun _ _ _ _ _ => pdts_nil) (fun _ _ _ _ _ => (pd_min rfl hr.units T.b_min (pda_cons (pd_ix (pd_var 0 (pv 0)) (pd_var 2 (pv 2))) (pda_cons (pd_ix (pd_var 1 (pv 1)) (pd_var 2 (pv 2))) pda_nil))))) pda_nil)))))
abbrev N__law_ruled : List Str := ["moves", "rule", "levels", "best", "number", "after", "worth"]
theorem sc__law_ruled : FnScope N__law_ruled ["moves", "rule", "levels"] (defScope (top 30)) := ⟨rfl, rfl, rfl, by decide +kernel, rfl, by decide +kernel, by decide +kernel⟩
theorem ok__law_ruled (T : Tx K mg) (D__law_poured : DefOk P w K mg base "_law_poured" 1 ["levels", "move"] f__law_poured) : DefOk P w K mg base "_law_ruled" 2 ["moves", "rule", "levels"] f__law_ruled := by
  obtain ⟨f, fd, F, hm⟩ := T.d__law_ruled
  refine ⟨f, fd, fnD (N := N__law_ruled) (c := c__law_ruled) (k := 1) F sc__law_ruled (fun cdv A outer s H E hr => ?_), hm, F.kp, F.bindsN fun _ _ _ _ _ _ us hl => match us, hl with | [_, _, _], _ => rfl, fdAt_of F⟩
  exact (pdss_cons (pds_set (ps_set (i := 3) sc__law_ruled.nd rfl (by first | exact .inl rfl | exact .inr rfl) pd_non))
  (pdss_cons (pds_for PassesOwn.never rfl (pdi_range1 T.b_range (pd_len T.b_len (pda_cons (pd_var 0 (pv 0)) pda_nil))) (pdg_name (i := 4) (pg_name (i := 4) sc__law_ruled.nd rfl (by first | exact .inl rfl | exact .inr rfl))) (pdss_cons (pds_set (ps_set (i := 5) sc__law_ruled.nd rfl (by first | exact .inl rfl | exact .inr rfl) (pd_callD hr (D__law_poured.mono (by first | decide | omega)) (pda_cons (pd_var 2 (pv 2)) (pda_cons (pd_ix (pd_var 0 (pv 0)) (pd_var 4 (pv 4))) pda_nil)))))
  (pdss_cons (pds_set (ps_set (i := 6) sc__law_ruled.nd rfl (by first | exact .inl rfl | exact .inr rfl) (pd_dget hr.units (pd_dispK (.cons pd_str pd_int (.cons pd_str (pd_sum3 rfl T.b_sum (pda_cons (pd_var 5 (pv 5)) pda_nil)) (.cons pd_str (pd_min rfl hr.units T.b_min (pda_cons (pd_var 5 (pv 5)) pda_nil)) PPrs.nil))) (by simp) (by decide)) (pd_var 1 (pv 1)) (fun _ _ => rfl))))
  (pdss_one (pds_if (par_of (pdw_and (pdt_ge (pd_min rfl hr.units T.b_min (pda_cons (pd_var 5 (pv 5)) pda_nil)) pd_int) (pdw_and1 (par_of (pdw_or (pdt_isN (pd_var 3 (pv 3)) pd_non) (pdw_or1 (pdt_gt (pd_var 6 (pv 6)) (pd_ix (pd_var 3 (pv 3)) pd_int)))))))) (pdss_one (pds_set (ps_set (i := 3) sc__law_ruled.nd rfl (by first | exact .inl rfl | exact .inr rfl) (pd_tup (pda_cons (pd_var 6 (pv 6)) (pda_cons (pd_var 4 (pv 4)) pda_nil)))))) pdss_nil)))))
  (pdss_one (pds_ret (pd_if (pdt_isN (pd_var 3 (pv 3)) pd_non) pd_int (pd_ix (pd_var 3 (pv 3)) pd_int))))))
abbrev N__law_pick : List Str := ["book", "order", "place", "moves", "number"]
theorem sc__law_pick : FnScope N__law_pick ["book", "order", "place"] (defScope (top 31)) := ⟨rfl, rfl, rfl, by decide +kernel, rfl, by decide +kernel, by decide +kernel⟩
theorem ok__law_pick (T : Tx K mg) (D__law_poured : DefOk P w K mg base "_law_poured" 1 ["levels", "move"] f__law_poured) (D__law_ruled : DefOk P w K mg base "_law_ruled" 2 ["moves", "rule", "levels"] f__law_ruled) : DefOk P w K mg base "_law_pick" 3 ["book", "order", "place"] f__law_pick := by
  obtain ⟨f, fd, F, hm⟩ := T.d__law_pick
  refine ⟨f, fd, fnD (N := N__law_pick) (c := c__law_pick) (k := 2) F sc__law_pick (fun cdv A outer s H E hr => ?_), hm, F.kp, F.bindsN fun _ _ _ _ _ _ us hl => match us, hl with | [_, _, _], _ => rfl, fdAt_of F⟩
  exact (pdss_cons (pds_set (ps_set (i := 3) sc__law_pick.nd rfl (by first | exact .inl rfl | exact .inr rfl) (pd_ix (pd_ix (pd_ix (pd_var 0 (pv 0)) pd_int) (pd_ix (pd_var 2 (pv 2)) pd_int)) pd_int)))
  (pdss_cons (pds_if (pdt_val (pd_isi (T := "str") (t := "str") T.b_isinstance (pd_var 1 (pv 1)) T.b_str (by decide +kernel))) (pdss_one (pds_ret (pd_callD hr (D__law_ruled.mono (by first | decide | omega)) (pda_cons (pd_var 3 (pv 3)) (pda_cons (pd_var 1 (pv 1)) (pda_cons (pd_ix (pd_var 2 (pv 2)) pd_int) pda_nil)))))) pdss_nil)
  (pdss_cons (pds_for PassesOwn.never rfl (pdi_seq (pd_ix (pd_var 1 (pv 1)) (pd_ix (pd_var 2 (pv 2)) pd_int))) (pdg_name (i := 4) (pg_name (i := 4) sc__law_pick.nd rfl (by first | exact .inl rfl | exact .inr rfl))) (pdss_one (pds_if (pdt_ge (pd_min rfl hr.units T.b_min (pda_cons (pd_callD hr (D__law_poured.mono (by first | decide | omega)) (pda_cons (pd_ix (pd_var 2 (pv 2)) pd_int) (pda_cons (pd_ix (pd_var 3 (pv 3)) (pd_var 4 (pv 4))) pda_nil))) pda_nil)) pd_int) (pdss_one (pds_ret (pd_var 4 (pv 4)))) pdss_nil)))
  (pdss_one (pds_ret (pd_ix (pd_ix (pd_var 1 (pv 1)) (pd_ix (pd_var 2 (pv 2)) pd_int)) pd_int))))))
abbrev N__law_turns : List Str := ["book", "order", "place", "owner", "moves", "k"]
theorem sc__law_turns : FnScope N__law_turns ["book", "order", "place"] (defScope (top 32)) := ⟨rfl, rfl, rfl, by decide +kernel, rfl, by decide +kernel, by decide +kernel⟩
theorem ok__law_turns (T : Tx K mg) (D__law_pick : DefOk P w K mg base "_law_pick" 3 ["book", "order", "place"] f__law_pick) : DefOk P w K mg base "_law_turns" 4 ["book", "order", "place"] f__law_turns := by
  obtain ⟨f, fd, F, hm⟩ := T.d__law_turns
  refine ⟨f, fd, fnD (N := N__law_turns) (c := c__law_turns) (k := 3) F sc__law_turns (fun cdv A outer s H E hr => ?_), hm, F.kp, F.bindsN fun _ _ _ _ _ _ us hl => match us, hl with | [_, _, _], _ => rfl, fdAt_of F⟩
  exact (pdss_cons (pds_asg (pd_ix (pd_ix (pd_var 0 (pv 0)) pd_int) (pd_ix (pd_var 2 (pv 2)) pd_int)) (pdg_tup rfl (pdgs_cons (pdg_name (i := 3) (pg_name (i := 3) sc__law_turns.nd rfl (by first | exact .inl rfl | exact .inr rfl))) (pdgs_cons (pdg_name (i := 4) (pg_name (i := 4) sc__law_turns.nd rfl (by first | exact .inl rfl | exact .inr rfl))) pdgs_nil))))
  (pdss_cons (pds_if (pdt_eq (pd_len T.b_len (pda_cons (pd_var 4 (pv 4)) pda_nil)) pd_int) (pdss_one (pds_ret (pd_lst pda_nil))) pdss_nil)
  (pdss_one (pds_ret (pd_if (pdt_eq (pd_var 3 (pv 3)) pd_str) (pd_lst (pda_cons (pd_callD hr (D__law_pick.mono (by first | decide | omega)) (pda_cons (pd_var 0 (pv 0)) (pda_cons (pd_var 1 (pv 1)) (pda_cons (pd_var 2 (pv 2)) pda_nil)))) pda_nil)) (pd_lc false (own := [("k", 5)]) (ws := [5]) (g := (gN 5)) (t := tYesD) (e := (cVar 5)) rfl sc__law_turns.nd (pdi_range1 T.b_range (pd_len T.b_len (pda_cons (pd_var 4 (pv 4)) pda_nil))) (blkOk_by (own := [("k", 5)]) (N := N__law_turns) (sc := defScope (top 32)) (by decide +kernel)) (by decide) (fun _ _ _ _ _ => (pdg_name (i := 5) (pg_name (i := 5) sc__law_turns.nd rfl (by first | exact .inl rfl | exact .inr rfl)))) (fun _ _ _ _ _ => pdts_nil) (fun _ _ _ _ _ => (pd_var 5 (pv 5)))))))))
abbrev N__law_right : List Str := ["book", "start", "levels", "order", "play", "many", "sizes", "place", "at", "number", "move"]
theorem sc__law_right : FnScope N__law_right ["book", "start", "levels", "order", "play", "many", "sizes"] (defScope (top 35)) := ⟨rfl, rfl, rfl, by decide +kernel, rfl, by decide +kernel, by decide +kernel⟩
theorem ok__law_right (T : Tx K mg) (D__law_poured : DefOk P w K mg base "_law_poured" 1 ["levels", "move"] f__law_poured) (D__law_spilt : DefOk P w K mg base "_law_spilt" 1 ["levels", "sizes"] f__law_spilt) (D__law_turns : DefOk P w K mg base "_law_turns" 4 ["book", "order", "place"] f__law_turns) : DefOk P w K mg base "_law_right" 5 ["book", "start", "levels", "order", "play", "many", "sizes"] f__law_right := by
  obtain ⟨f, fd, F, hm⟩ := T.d__law_right
  refine ⟨f, fd, fnD (N := N__law_right) (c := c__law_right) (k := 4) F sc__law_right (fun cdv A outer s H E hr => ?_), hm, F.kp, F.bindsN fun _ _ _ _ _ _ us hl => match us, hl with | [_, _, _, _, _, _, _], _ => rfl, fdAt_of F⟩
  exact (pdss_cons (pds_if (par_of (pdw_or (pdt_not (pdt_val (pd_isi (T := "tuple") (t := "tuple") T.b_isinstance (pd_var 4 (pv 4)) T.b_tuple (by decide +kernel)))) (pdw_or1 (pdt_ne (pd_len T.b_len (pda_cons (pd_var 4 (pv 4)) pda_nil)) (pd_var 5 (pv 5)))))) (pdss_one (pds_ret pd_bl)) pdss_nil)
  (pdss_cons (pds_set (ps_set (i := 7) sc__law_right.nd rfl (by first | exact .inl rfl | exact .inr rfl) (pd_tup (pda_cons (pd_var 1 (pv 1)) (pda_cons (pd_var 2 (pv 2)) pda_nil)))))
  (pdss_cons (pds_for PassesOwn.never rfl (pdi_range1 T.b_range (pd_var 5 (pv 5))) (pdg_name (i := 8) (pg_name (i := 8) sc__law_right.nd rfl (by first | exact .inl rfl | exact .inr rfl))) (pdss_cons (pds_set (ps_set (i := 9) sc__law_right.nd rfl (by first | exact .inl rfl | exact .inr rfl) (pd_ix (pd_var 4 (pv 4)) (pd_var 8 (pv 8)))))
  (pdss_cons (pds_if (par_of (pdw_or (pdt_not (pdt_val (pd_isi (T := "int") (t := "int") T.b_isinstance (pd_var 9 (pv 9)) T.b_int (by decide +kernel)))) (pdw_or (pdt_val (pd_isi (T := "bool") (t := "bool") T.b_isinstance (pd_var 9 (pv 9)) T.b_bool (by decide +kernel))) (pdw_or1 (pdt_notInL (pd_var 9 (pv 9)) (pd_callD hr (D__law_turns.mono (by first | decide | omega)) (pda_cons (pd_var 0 (pv 0)) (pda_cons (pd_var 3 (pv 3)) (pda_cons (pd_var 7 (pv 7)) pda_nil))))))))) (pdss_one (pds_ret pd_bl)) pdss_nil)
  (pdss_cons (pds_set (ps_set (i := 10) sc__law_right.nd rfl (by first | exact .inl rfl | exact .inr rfl) (pd_ix (pd_ix (pd_ix (pd_ix (pd_var 0 (pv 0)) pd_int) (pd_ix (pd_var 7 (pv 7)) pd_int)) pd_int) (pd_var 9 (pv 9)))))
  (pdss_cons (pds_set (ps_set (i := 7) sc__law_right.nd rfl (by first | exact .inl rfl | exact .inr rfl) (pd_tup (pda_cons (pd_ix (pd_var 10 (pv 10)) pd_int) (pda_cons (pd_callD hr (D__law_spilt.mono (by first | decide | omega)) (pda_cons (pd_callD hr (D__law_poured.mono (by first | decide | omega)) (pda_cons (pd_ix (pd_var 7 (pv 7)) pd_int) (pda_cons (pd_var 10 (pv 10)) pda_nil))) (pda_cons (pd_var 6 (pv 6)) pda_nil))) pda_nil)))))
  (pdss_one (pds_if (pdt_ne (pd_lt (pd_min rfl hr.units T.b_min (pda_cons (pd_ix (pd_var 7 (pv 7)) pd_int) pda_nil)) pd_int) (pd_eq (pd_var 8 (pv 8)) (pd_sub (pd_var 5 (pv 5)) pd_int))) (pdss_one (pds_ret pd_bl)) pdss_nil)))))))
  (pdss_one (pds_ret pd_bl)))))
abbrev N_is_rest : List Str := ["book", "standing"]
theorem sc_is_rest : FnScope N_is_rest ["book", "standing"] (defScope (top 3)) := ⟨rfl, rfl, rfl, by decide +kernel, rfl, by decide +kernel, by decide +kernel⟩
theorem ok_is_rest (T : Tx K mg)  : DefOk P w K mg base "is_rest" 1 ["book", "standing"] f_is_rest := by
  obtain ⟨f, fd, F, hm⟩ := T.d_is_rest
  refine ⟨f, fd, fnD (N := N_is_rest) (c := c_is_rest) (k := 0) F sc_is_rest (fun cdv A outer s H E hr => ?_), hm, F.kp, F.bindsN fun _ _ _ _ _ _ us hl => match us, hl with | [_, _], _ => rfl, fdAt_of F⟩
  exact (pdss_one (pds_ret (pd_eq (pd_len T.b_len (pda_cons (pd_ix (pd_ix (pd_ix (pd_var 0 (pv 0)) pd_int) (pd_var 1 (pv 1))) pd_int) pda_nil)) pd_int)))
abbrev N_moves_of : List Str := ["book", "standing"]
theorem sc_moves_of : FnScope N_moves_of ["book", "standing"] (defScope (top 2)) := ⟨rfl, rfl, rfl, by decide +kernel, rfl, by decide +kernel, by decide +kernel⟩
theorem ok_moves_of (T : Tx K mg)  : DefOk P w K mg base "moves_of" 1 ["book", "standing"] f_moves_of := by
  obtain ⟨f, fd, F, hm⟩ := T.d_moves_of
  refine ⟨f, fd, fnD (N := N_moves_of) (c := c_moves_of) (k := 0) F sc_moves_of (fun cdv A outer s H E hr => ?_), hm, F.kp, F.bindsN fun _ _ _ _ _ _ us hl => match us, hl with | [_, _], _ => rfl, fdAt_of F⟩
  exact (pdss_one (pds_ret (pd_ix (pd_ix (pd_ix (pd_var 0 (pv 0)) pd_int) (pd_var 1 (pv 1))) pd_int)))
abbrev N_poured : List Str := ["levels", "pours", "level", "pour"]
theorem sc_poured : FnScope N_poured ["levels", "pours"] (defScope (top 5)) := ⟨rfl, rfl, rfl, by decide +kernel, rfl, by decide +kernel, by decide +kernel⟩
theorem ok_poured (T : Tx K mg)  : DefOk P w K mg base "poured" 1 ["levels", "pours"] f_poured := by
  obtain ⟨f, fd, F, hm⟩ := T.d_poured
  refine ⟨f, fd, fnD (N := N_poured) (c := c_poured) (k := 0) F sc_poured (fun cdv A outer s H E hr => ?_), hm, F.kp, F.bindsN fun _ _ _ _ _ _ us hl => match us, hl with | [_, _], _ => rfl, fdAt_of F⟩
  exact (pdss_one (pds_ret (pd_tuple T.b_tuple (pda_cons (pd_lc false (own := [("level", 2), ("pour", 3)]) (ws := [2, 3]) (g := (gT 2 (gsCons (gN 2) (gsCons (gN 3) gsNil)))) (t := tYesD) (e := (cBin addD (cVar 2) (cVar 3))) rfl sc_poured.nd (pdi_zip T.b_zip (pd_var 0 (pv 0)) (pd_var 1 (pv 1))) (blkOk_by (own := [("level", 2), ("pour", 3)]) (N := N_poured) (sc := defScope (top 5)) (by decide +kernel)) (by decide) (fun _ _ _ _ _ => (pdg_tup rfl (pdgs_cons (pdg_name (i := 2) (pg_name (i := 2) sc_poured.nd rfl (by first | exact .inl rfl | exact .inr rfl))) (pdgs_cons (pdg_name (i := 3) (pg_name (i := 3) sc_poured.nd rfl (by first | exact .inl rfl | exact .inr rfl))) pdgs_nil)))) (fun _ _ _ _ _ => pdts_nil) (fun _ _ _ _ _ => (pd_add (pd_var 2 (pv 2)) (pd_var 3 (pv 3))))) pda_nil))))
abbrev N_is_dry : List Str := ["levels", "level"]
theorem sc_is_dry : FnScope N_is_dry ["levels"] (defScope (top 7)) := ⟨rfl, rfl, rfl, by decide +kernel, rfl, by decide +kernel, by decide +kernel⟩
theorem ok_is_dry (T : Tx K mg)  : DefOk P w K mg base "is_dry" 1 ["levels"] f_is_dry := by
  obtain ⟨f, fd, F, hm⟩ := T.d_is_dry
  refine ⟨f, fd, fnD (N := N_is_dry) (c := c_is_dry) (k := 0) F sc_is_dry (fun cdv A outer s H E hr => ?_), hm, F.kp, F.bindsN fun _ _ _ _ _ _ us hl => match us, hl with | [_], _ => rfl, fdAt_of F⟩
  exact (pdss_one (pds_ret (pd_any rfl T.b_any (pda_cons (pd_lc false (own := [("level", 1)]) (ws := [1]) (g := (gN 1)) (t := tYesD) (e := (cBin ltD (cVar 1) (cC (.int 0)))) rfl sc_is_dry.nd (pdi_seq (pd_var 0 (pv 0))) (blkOk_by (own := [("level", 1)]) (N := N_is_dry) (sc := defScope (top 7)) (by decide +kernel)) (by decide) (fun _ _ _ _ _ => (pdg_name (i := 1) (pg_name (i := 1) sc_is_dry.nd rfl (by first | exact .inl rfl | exact .inr rfl)))) (fun _ _ _ _ _ => pdts_nil) (fun _ _ _ _ _ => (pd_lt (pd_var 1 (pv 1)) pd_int))) pda_nil))))
abbrev N_ordered_move : List Str := ["book", "standing", "levels", "order", "number"]
theorem sc_ordered_move : FnScope N_ordered_move ["book", "standing", "levels", "order"] (defScope (top 12)) := ⟨rfl, rfl, rfl, by decide +kernel, rfl, by decide +kernel, by decide +kernel⟩
theorem ok_ordered_move (T : Tx K mg) (D_moves_of : DefOk P w K mg base "moves_of" 1 ["book", "standing"] f_moves_of) (D_poured : DefOk P w K mg base "poured" 1 ["levels", "pours"] f_poured) (D_is_dry : DefOk P w K mg base "is_dry" 1 ["levels"] f_is_dry) : DefOk P w K mg base "ordered_move" 2 ["book", "standing", "levels", "order"] f_ordered_move := by
  obtain ⟨f, fd, F, hm⟩ := T.d_ordered_move
  refine ⟨f, fd, fnD (N := N_ordered_move) (c := c_ordered_move) (k := 1) F sc_ordered_move (fun cdv A outer s H E hr => ?_), hm, F.kp, F.bindsN fun _ _ _ _ _ _ us hl => match us, hl with | [_, _, _, _], _ => rfl, fdAt_of F⟩
  exact (pdss_cons (pds_for PassesOwn.never rfl (pdi_seq (pd_ix (pd_var 3 (pv 3)) (pd_var 1 (pv 1)))) (pdg_name (i := 4) (pg_name (i := 4) sc_ordered_move.nd rfl (by first | exact .inl rfl | exact .inr rfl))) (pdss_one (pds_if (pdt_not (pdt_val (pd_callD hr (D_is_dry.mono (by first | decide | omega)) (pda_cons (pd_callD hr (D_poured.mono (by first | decide | omega)) (pda_cons (pd_var 2 (pv 2)) (pda_cons (pd_ix (pd_ix (pd_callD hr (D_moves_of.mono (by first | decide | omega)) (pda_cons (pd_var 0 (pv 0)) (pda_cons (pd_var 1 (pv 1)) pda_nil))) (pd_var 4 (pv 4))) pd_int) pda_nil))) pda_nil)))) (pdss_one (pds_ret (pd_var 4 (pv 4)))) pdss_nil)))
  (pdss_one (pds_ret (pd_ix (pd_ix (pd_var 3 (pv 3)) (pd_var 1 (pv 1))) pd_int))))
abbrev N_owner_of : List Str := ["book", "standing"]
theorem sc_owner_of : FnScope N_owner_of ["book", "standing"] (defScope (top 1)) := ⟨rfl, rfl, rfl, by decide +kernel, rfl, by decide +kernel, by decide +kernel⟩
theorem ok_owner_of (T : Tx K mg)  : DefOk P w K mg base "owner_of" 1 ["book", "standing"] f_owner_of := by
  obtain ⟨f, fd, F, hm⟩ := T.d_owner_of
  refine ⟨f, fd, fnD (N := N_owner_of) (c := c_owner_of) (k := 0) F sc_owner_of (fun cdv A outer s H E hr => ?_), hm, F.kp, F.bindsN fun _ _ _ _ _ _ us hl => match us, hl with | [_, _], _ => rfl, fdAt_of F⟩
  exact (pdss_one (pds_ret (pd_ix (pd_ix (pd_ix (pd_var 0 (pv 0)) pd_int) (pd_var 1 (pv 1))) pd_int)))
abbrev N_numbers_at : List Str := ["book", "place", "order", "standing", "levels"]
theorem sc_numbers_at : FnScope N_numbers_at ["book", "place", "order"] (defScope (top 13)) := ⟨rfl, rfl, rfl, by decide +kernel, rfl, by decide +kernel, by decide +kernel⟩
theorem ok_numbers_at (T : Tx K mg) (D_is_rest : DefOk P w K mg base "is_rest" 1 ["book", "standing"] f_is_rest) (D_ordered_move : DefOk P w K mg base "ordered_move" 2 ["book", "standing", "levels", "order"] f_ordered_move) (D_owner_of : DefOk P w K mg base "owner_of" 1 ["book", "standing"] f_owner_of) (D_moves_of : DefOk P w K mg base "moves_of" 1 ["book", "standing"] f_moves_of) : DefOk P w K mg base "numbers_at" 3 ["book", "place", "order"] f_numbers_at := by
  obtain ⟨f, fd, F, hm⟩ := T.d_numbers_at
  refine ⟨f, fd, fnD (N := N_numbers_at) (c := c_numbers_at) (k := 2) F sc_numbers_at (fun cdv A outer s H E hr => ?_), hm, F.kp, F.bindsN fun _ _ _ _ _ _ us hl => match us, hl with | [_, _, _], _ => rfl, fdAt_of F⟩
  exact (pdss_cons (pds_asg (pd_var 1 (pv 1)) (pdg_tup rfl (pdgs_cons (pdg_name (i := 3) (pg_name (i := 3) sc_numbers_at.nd rfl (by first | exact .inl rfl | exact .inr rfl))) (pdgs_cons (pdg_name (i := 4) (pg_name (i := 4) sc_numbers_at.nd rfl (by first | exact .inl rfl | exact .inr rfl))) pdgs_nil))))
  (pdss_cons (pds_if (pdt_eq (pd_callD hr (D_owner_of.mono (by first | decide | omega)) (pda_cons (pd_var 0 (pv 0)) (pda_cons (pd_var 3 (pv 3)) pda_nil))) pd_str) (pdss_one (pds_ret (pd_listRg1 (bx := false) rfl T.b_list T.b_range (pd_len T.b_len (pda_cons (pd_callD hr (D_moves_of.mono (by first | decide | omega)) (pda_cons (pd_var 0 (pv 0)) (pda_cons (pd_var 3 (pv 3)) pda_nil))) pda_nil))))) pdss_nil)
  (pdss_one (pds_ret (pd_if (pdt_not (pdt_val (pd_callD hr (D_is_rest.mono (by first | decide | omega)) (pda_cons (pd_var 0 (pv 0)) (pda_cons (pd_var 3 (pv 3)) pda_nil))))) (pd_lst (pda_cons (pd_callD hr (D_ordered_move.mono (by first | decide | omega)) (pda_cons (pd_var 0 (pv 0)) (pda_cons (pd_var 3 (pv 3)) (pda_cons (pd_var 4 (pv 4)) (pda_cons (pd_var 2 (pv 2)) pda_nil))))) pda_nil)) (pd_lst pda_nil))))))
abbrev N_led_back : List Str := ["came", "place", "play", "before", "number"]
theorem sc_led_back : FnScope N_led_back ["came", "place"] (defScope (top 9)) := ⟨rfl, rfl, rfl, by decide +kernel, rfl, by decide +kernel, by decide +kernel⟩
theorem ok_led_back (T : Tx K mg)  : DefOk P w K mg base "led_back" 1 ["came", "place"] f_led_back := by
  obtain ⟨f, fd, F, hm⟩ := T.d_led_back
  refine ⟨f, fd, fnD (N := N_led_back) (c := c_led_back) (k := 0) F sc_led_back (fun cdv A outer s H E hr => ?_), hm, F.kp, F.bindsN fun _ _ _ _ _ _ us hl => match us, hl with | [_, _], _ => rfl, fdAt_of F⟩
  exact (pdss_cons (pds_set (ps_set (i := 2) sc_led_back.nd rfl (by first | exact .inl rfl | exact .inr rfl) (pd_lstB pda_nil)))
  (pdss_cons (pds_while PassesOwn.never (pdt_notN (pd_dget hr.units (pd_var 0 (pv 0)) (pd_var 1 (pv 1)) (fun _ _ => rfl)) pd_non) (pdss_cons (pds_asg (pd_dget hr.units (pd_var 0 (pv 0)) (pd_var 1 (pv 1)) (fun _ _ => rfl)) (pdg_tup rfl (pdgs_cons (pdg_name (i := 3) (pg_name (i := 3) sc_led_back.nd rfl (by first | exact .inl rfl | exact .inr rfl))) (pdgs_cons (pdg_name (i := 4) (pg_name (i := 4) sc_led_back.nd rfl (by first | exact .inl rfl | exact .inr rfl))) pdgs_nil))))
  (pdss_cons (pds_expr (pd_append (pd_var 2 (pv 2)) (pda_cons (pd_var 4 (pv 4)) pda_nil)))
  (pdss_one (pds_set (ps_set (i := 1) sc_led_back.nd rfl (by first | exact .inl rfl | exact .inr rfl) (pd_var 3 (pv 3))))))))
  (pdss_one (pds_ret (pd_tuple T.b_tuple (pda_cons (pd_rev (pd_var 2 (pv 2))) pda_nil))))))
abbrev N_beaten_within : List Str := ["book", "start", "levels", "order", "most", "came", "layer", "_", "behind", "place", "number", "move", "there"]
theorem sc_beaten_within : FnScope N_beaten_within ["book", "start", "levels", "order", "most"] (defScope (top 14)) := ⟨rfl, rfl, rfl, by decide +kernel, rfl, by decide +kernel, by decide +kernel⟩
theorem ok_beaten_within (T : Tx K mg) (D_numbers_at : DefOk P w K mg base "numbers_at" 3 ["book", "place", "order"] f_numbers_at) (D_is_dry : DefOk P w K mg base "is_dry" 1 ["levels"] f_is_dry) (D_led_back : DefOk P w K mg base "led_back" 1 ["came", "place"] f_led_back) (D_poured : DefOk P w K mg base "poured" 1 ["levels", "pours"] f_poured) (D_moves_of : DefOk P w K mg base "moves_of" 1 ["book", "standing"] f_moves_of) : DefOk P w K mg base "beaten_within" 4 ["book", "start", "levels", "order", "most"] f_beaten_within := by
  obtain ⟨f, fd, F, hm⟩ := T.d_beaten_within
  refine ⟨f, fd, fnD (N := N_beaten_within) (c := c_beaten_within) (k := 3) F sc_beaten_within (fun cdv A outer s H E hr => ?_), hm, F.kp, F.bindsN fun _ _ _ _ _ _ us hl => match us, hl with | [_, _, _, _, _], _ => rfl, fdAt_of F⟩
  exact (pdss_cons (pds_set (ps_set (i := 5) sc_beaten_within.nd rfl (by first | exact .inl rfl | exact .inr rfl) (pd_disp (nst := true) hr.units (pd_tup (pda_cons (pd_var 1 (pv 1)) (pda_cons (pd_var 2 (pv 2)) pda_nil))) pd_non)))
  (pdss_cons (pds_set (ps_set (i := 6) sc_beaten_within.nd rfl (by first | exact .inl rfl | exact .inr rfl) (pd_lst (pda_cons (pd_tup (pda_cons (pd_var 1 (pv 1)) (pda_cons (pd_var 2 (pv 2)) pda_nil))) pda_nil))))
  (pdss_cons (pds_for PassesOwn.never rfl (pdi_range1 T.b_range (pd_var 4 (pv 4))) (pdg_name (i := 7) (pg_name (i := 7) sc_beaten_within.nd rfl (by first | exact .inl rfl | exact .inr rfl))) (pdss_cons (pds_set (ps_set (i := 8) sc_beaten_within.nd rfl (by first | exact .inl rfl | exact .inr rfl) (pd_lstB pda_nil)))
  (pdss_cons (pds_for PassesOwn.never rfl (pdi_seq (pd_var 6 (pv 6))) (pdg_name (i := 9) (pg_name (i := 9) sc_beaten_within.nd rfl (by first | exact .inl rfl | exact .inr rfl))) (pdss_one (pds_for PassesOwn.never rfl (pdi_seq (pd_callD hr (D_numbers_at.mono (by first | decide | omega)) (pda_cons (pd_var 0 (pv 0)) (pda_cons (pd_var 9 (pv 9)) (pda_cons (pd_var 3 (pv 3)) pda_nil))))) (pdg_name (i := 10) (pg_name (i := 10) sc_beaten_within.nd rfl (by first | exact .inl rfl | exact .inr rfl))) (pdss_cons (pds_set (ps_set (i := 11) sc_beaten_within.nd rfl (by first | exact .inl rfl | exact .inr rfl) (pd_ix (pd_callD hr (D_moves_of.mono (by first | decide | omega)) (pda_cons (pd_var 0 (pv 0)) (pda_cons (pd_ix (pd_var 9 (pv 9)) pd_int) pda_nil))) (pd_var 10 (pv 10)))))
  (pdss_cons (pds_set (ps_set (i := 12) sc_beaten_within.nd rfl (by first | exact .inl rfl | exact .inr rfl) (pd_tup (pda_cons (pd_ix (pd_var 11 (pv 11)) pd_int) (pda_cons (pd_callD hr (D_poured.mono (by first | decide | omega)) (pda_cons (pd_ix (pd_var 9 (pv 9)) pd_int) (pda_cons (pd_ix (pd_var 11 (pv 11)) pd_int) pda_nil))) pda_nil)))))
  (pdss_cons (pds_if (pdt_val (pd_callD hr (D_is_dry.mono (by first | decide | omega)) (pda_cons (pd_ix (pd_var 12 (pv 12)) pd_int) pda_nil))) (pdss_one (pds_ret (pd_add (pd_callD hr (D_led_back.mono (by first | decide | omega)) (pda_cons (pd_var 5 (pv 5)) (pda_cons (pd_var 9 (pv 9)) pda_nil))) (pd_tup (pda_cons (pd_var 10 (pv 10)) pda_nil))))) pdss_nil)
  (pdss_one (pds_if (pdt_notIn hr.units (pd_var 12 (pv 12)) (pd_var 5 (pv 5))) (pdss_cons (pds_dput hr.units (pd_var 5 (pv 5)) (pd_var 12 (pv 12)) (pd_tup (pda_cons (pd_var 9 (pv 9)) (pda_cons (pd_var 10 (pv 10)) pda_nil))))
  (pdss_one (pds_expr (pd_append (pd_var 8 (pv 8)) (pda_cons (pd_var 12 (pv 12)) pda_nil))))) pdss_nil))))))))
  (pdss_one (pds_set (ps_set (i := 6) sc_beaten_within.nd rfl (by first | exact .inl rfl | exact .inr rfl) (pd_frz (pd_var 8 (pv 8)))))))))
  (pdss_one (pds_ret pd_non)))))
abbrev N__law_fewest : List Str := ["book", "start", "levels", "order", "most", "sizes", "lot", "known", "many", "more", "place", "number", "move", "after"]
theorem sc__law_fewest : FnScope N__law_fewest ["book", "start", "levels", "order", "most", "sizes"] (defScope (top 34)) := ⟨rfl, rfl, rfl, by decide +kernel, rfl, by decide +kernel, by decide +kernel⟩
theorem ok__law_fewest (T : Tx K mg) (D__law_turns : DefOk P w K mg base "_law_turns" 4 ["book", "order", "place"] f__law_turns) (D__law_poured : DefOk P w K mg base "_law_poured" 1 ["levels", "move"] f__law_poured) (D__law_spilt : DefOk P w K mg base "_law_spilt" 1 ["levels", "sizes"] f__law_spilt) : DefOk P w K mg base "_law_fewest" 5 ["book", "start", "levels", "order", "most", "sizes"] f__law_fewest := by
  obtain ⟨f, fd, F, hm⟩ := T.d__law_fewest
  refine ⟨f, fd, fnD (N := N__law_fewest) (c := c__law_fewest) (k := 4) F sc__law_fewest (fun cdv A outer s H E hr => ?_), hm, F.kp, F.bindsN fun _ _ _ _ _ _ us hl => match us, hl with | [_, _, _, _, _, _], _ => rfl, fdAt_of F⟩
  exact (pdss_cons (pds_set (ps_set (i := 6) sc__law_fewest.nd rfl (by first | exact .inl rfl | exact .inr rfl) (pd_disp (nst := true) hr.units (pd_tup (pda_cons (pd_var 1 (pv 1)) (pda_cons (pd_var 2 (pv 2)) pda_nil))) pd_bl)))
  (pdss_cons (pds_set (ps_set (i := 7) sc__law_fewest.nd rfl (by first | exact .inl rfl | exact .inr rfl) (pd_disp (nst := true) hr.units (pd_tup (pda_cons (pd_var 1 (pv 1)) (pda_cons (pd_var 2 (pv 2)) pda_nil))) pd_bl)))
  (pdss_cons (pds_for PassesOwn.never rfl (pdi_range2 T.b_range pd_int (pd_add (pd_var 4 (pv 4)) pd_int)) (pdg_name (i := 8) (pg_name (i := 8) sc__law_fewest.nd rfl (by first | exact .inl rfl | exact .inr rfl))) (pdss_cons (pds_set (ps_set (i := 9) sc__law_fewest.nd rfl (by first | exact .inl rfl | exact .inr rfl) (pd_dnew (nst := true))))
  (pdss_cons (pds_unK (pds_for PassesOwn.never rfl (pdi_keysN (pd_var 6 (pv 6))) (pdg_name (i := 10) (pg_name (i := 10) sc__law_fewest.nd rfl (by first | exact .inl rfl | exact .inr rfl))) (pdss_one (pds_for PassesOwn.never rfl (pdi_seq (pd_callD hr (D__law_turns.mono (by first | decide | omega)) (pda_cons (pd_var 0 (pv 0)) (pda_cons (pd_var 3 (pv 3)) (pda_cons (pd_var 10 (pv 10)) pda_nil))))) (pdg_name (i := 11) (pg_name (i := 11) sc__law_fewest.nd rfl (by first | exact .inl rfl | exact .inr rfl))) (pdss_cons (pds_set (ps_set (i := 12) sc__law_fewest.nd rfl (by first | exact .inl rfl | exact .inr rfl) (pd_ix (pd_ix (pd_ix (pd_ix (pd_var 0 (pv 0)) pd_int) (pd_ix (pd_var 10 (pv 10)) pd_int)) pd_int) (pd_var 11 (pv 11)))))
  (pdss_cons (pds_set (ps_set (i := 13) sc__law_fewest.nd rfl (by first | exact .inl rfl | exact .inr rfl) (pd_callD hr (D__law_spilt.mono (by first | decide | omega)) (pda_cons (pd_callD hr (D__law_poured.mono (by first | decide | omega)) (pda_cons (pd_ix (pd_var 10 (pv 10)) pd_int) (pda_cons (pd_var 12 (pv 12)) pda_nil))) (pda_cons (pd_var 5 (pv 5)) pda_nil)))))
  (pdss_cons (pds_if (pdt_lt (pd_min rfl hr.units T.b_min (pda_cons (pd_var 13 (pv 13)) pda_nil)) pd_int) (pdss_one (pds_ret (pd_var 8 (pv 8)))) pdss_nil)
  (pdss_one (pds_if (pdt_notIn hr.units (pd_tup (pda_cons (pd_ix (pd_var 12 (pv 12)) pd_int) (pda_cons (pd_var 13 (pv 13)) pda_nil))) (pd_var 7 (pv 7))) (pdss_cons (pds_dput hr.units (pd_var 7 (pv 7)) (pd_tup (pda_cons (pd_ix (pd_var 12 (pv 12)) pd_int) (pda_cons (pd_var 13 (pv 13)) pda_nil))) pd_bl)
  (pdss_one (pds_dput hr.units (pd_var 9 (pv 9)) (pd_tup (pda_cons (pd_ix (pd_var 12 (pv 12)) pd_int) (pda_cons (pd_var 13 (pv 13)) pda_nil))) pd_bl))) pdss_nil)))))))))
  (pdss_cons (pds_set (ps_set (i := 6) sc__law_fewest.nd rfl (by first | exact .inl rfl | exact .inr rfl) (pd_var 9 (pv 9))))
  (pdss_cons (pds_if (pdt_gt (pd_len3 T.b_len (pda_cons (pd_var 7 (pv 7)) pda_nil)) pd_int) (pdss_one (pds_ret (pd_neg pd_int))) pdss_nil)
  (pdss_one (pds_if (pdt_eq (pd_len3 T.b_len (pda_cons (pd_var 6 (pv 6)) pda_nil)) pd_int) (pdss_one pds_break) pdss_nil)))))))
  (pdss_one (pds_ret pd_non)))))
abbrev N__law_beaten : List Str := ["book", "start", "levels", "order", "most", "due", "told"]
theorem sc__law_beaten : FnScope N__law_beaten ["book", "start", "levels", "order", "most"] (defScope (top 36)) := ⟨rfl, rfl, rfl, by decide +kernel, rfl, by decide +kernel, by decide +kernel⟩
theorem ok__law_beaten (T : Tx K mg) (D__law_right : DefOk P w K mg base "_law_right" 5 ["book", "start", "levels", "order", "play", "many", "sizes"] f__law_right) (D_beaten_within : DefOk P w K mg base "beaten_within" 4 ["book", "start", "levels", "order", "most"] f_beaten_within) (D__law_fewest : DefOk P w K mg base "_law_fewest" 5 ["book", "start", "levels", "order", "most", "sizes"] f__law_fewest) : DefOk P w K mg base "_law_beaten" 6 ["book", "start", "levels", "order", "most"] f__law_beaten := by
  obtain ⟨f, fd, F, hm⟩ := T.d__law_beaten
  refine ⟨f, fd, fnD (N := N__law_beaten) (c := c__law_beaten) (k := 5) F sc__law_beaten (fun cdv A outer s H E hr => ?_), hm, F.kp, F.bindsN fun _ _ _ _ _ _ us hl => match us, hl with | [_, _, _, _, _], _ => rfl, fdAt_of F⟩
  exact (pdss_cons (pds_set (ps_set (i := 5) sc__law_beaten.nd rfl (by first | exact .inl rfl | exact .inr rfl) (pd_callD hr (D__law_fewest.mono (by first | decide | omega)) (pda_cons (pd_var 0 (pv 0)) (pda_cons (pd_var 1 (pv 1)) (pda_cons (pd_var 2 (pv 2)) (pda_cons (pd_var 3 (pv 3)) (pda_cons (pd_var 4 (pv 4)) (pda_cons pd_non pda_nil)))))))))
  (pdss_cons (pds_if (par_of (pdw_and (pdt_notN (pd_var 5 (pv 5)) pd_non) (pdw_and1 (pdt_lt (pd_var 5 (pv 5)) pd_int)))) (pdss_one (pds_ret pd_bl)) pdss_nil)
  (pdss_cons (pds_set (ps_set (i := 6) sc__law_beaten.nd rfl (by first | exact .inl rfl | exact .inr rfl) (pd_callD hr (D_beaten_within.mono (by first | decide | omega)) (pda_cons (pd_var 0 (pv 0)) (pda_cons (pd_var 1 (pv 1)) (pda_cons (pd_var 2 (pv 2)) (pda_cons (pd_var 3 (pv 3)) (pda_cons (pd_var 4 (pv 4)) pda_nil))))))))
  (pdss_one (pds_ret (pd_if (pdt_isN (pd_var 5 (pv 5)) pd_non) (pd_isN (pd_var 6 (pv 6)) pd_non) (pd_callD hr (D__law_right.mono (by first | decide | omega)) (pda_cons (pd_var 0 (pv 0)) (pda_cons (pd_var 1 (pv 1)) (pda_cons (pd_var 2 (pv 2)) (pda_cons (pd_var 3 (pv 3)) (pda_cons (pd_var 6 (pv 6)) (pda_cons (pd_var 5 (pv 5)) (pda_cons pd_non pda_nil))))))))))))))
abbrev N__law_wont : List Str := ["spool", "place", "many", "habit"]
theorem sc__law_wont : FnScope N__law_wont ["spool", "place", "many"] (defScope (top 25)) := ⟨rfl, rfl, rfl, by decide +kernel, rfl, by decide +kernel, by decide +kernel⟩
theorem ok__law_wont (T : Tx K mg) (D__law_roll : DefOk P w K mg base "_law_roll" 1 ["spool", "many"] f__law_roll) : DefOk P w K mg base "_law_wont" 2 ["spool", "place", "many"] f__law_wont := by
  obtain ⟨f, fd, F, hm⟩ := T.d__law_wont
  refine ⟨f, fd, fnD (N := N__law_wont) (c := c__law_wont) (k := 1) F sc__law_wont (fun cdv A outer s H E hr => ?_), hm, F.kp, F.bindsN fun _ _ _ _ _ _ us hl => match us, hl with | [_, _, _], _ => rfl, fdAt_of F⟩
  exact (pdss_cons (pds_if (pdt_notIn hr.units (pd_var 1 (pv 1)) (pd_var 0 (pv 0))) (pdss_one (pds_dput hr.units (pd_var 0 (pv 0)) (pd_var 1 (pv 1)) (pd_lst (pda_cons (pd_callD hr (D__law_roll.mono (by first | decide | omega)) (pda_cons (pd_var 0 (pv 0)) (pda_cons pd_int pda_nil))) (pda_cons (pd_callD hr (D__law_roll.mono (by first | decide | omega)) (pda_cons (pd_var 0 (pv 0)) (pda_cons (pd_var 2 (pv 2)) pda_nil))) pda_nil))))) pdss_nil)
  (pdss_cons (pds_set (ps_set (i := 3) sc__law_wont.nd rfl (by first | exact .inl rfl | exact .inr rfl) (pd_dget hr.units (pd_var 0 (pv 0)) (pd_var 1 (pv 1)) (fun _ _ => rfl))))
  (pdss_cons (pds_if (pdt_eq (pd_ix (pd_var 3 (pv 3)) pd_int) pd_int) (pdss_one (pds_ret pd_int)) pdss_nil)
  (pdss_cons (pds_if (pdt_eq (pd_ix (pd_var 3 (pv 3)) pd_int) pd_int) (pdss_one (pds_ret (pd_sub (pd_var 2 (pv 2)) pd_int))) pdss_nil)
  (pdss_one (pds_ret (pd_if (pdt_eq (pd_ix (pd_var 3 (pv 3)) pd_int) pd_int) (pd_mod (pd_int' T.b_int (pda_cons (pd_ix (pd_var 3 (pv 3)) pd_int) pda_nil)) (pd_var 2 (pv 2))) (pd_callD hr (D__law_roll.mono (by first | decide | omega)) (pda_cons (pd_var 0 (pv 0)) (pda_cons (pd_var 2 (pv 2)) pda_nil))))))))))
abbrev N__law_order : List Str := ["spool", "book", "order", "owner", "moves", "left", "row", "k"]
theorem sc__law_order : FnScope N__law_order ["spool", "book"] (defScope (top 28)) := ⟨rfl, rfl, rfl, by decide +kernel, rfl, by decide +kernel, by decide +kernel⟩
theorem ok__law_order (T : Tx K mg) (D__law_wont : DefOk P w K mg base "_law_wont" 2 ["spool", "place", "many"] f__law_wont) (D__law_roll : DefOk P w K mg base "_law_roll" 1 ["spool", "many"] f__law_roll) : DefOk P w K mg base "_law_order" 3 ["spool", "book"] f__law_order := by
  obtain ⟨f, fd, F, hm⟩ := T.d__law_order
  refine ⟨f, fd, fnD (N := N__law_order) (c := c__law_order) (k := 2) F sc__law_order (fun cdv A outer s H E hr => ?_), hm, F.kp, F.bindsN fun _ _ _ _ _ _ us hl => match us, hl with | [_, _], _ => rfl, fdAt_of F⟩
  exact (pdss_cons (pds_set (ps_set (i := 2) sc__law_order.nd rfl (by first | exact .inl rfl | exact .inr rfl) (pd_lstB pda_nil)))
  (pdss_cons (pds_for PassesOwn.never rfl (pdi_seq (pd_ix (pd_var 1 (pv 1)) pd_int)) (pdg_tup rfl (pdgs_cons (pdg_name (i := 3) (pg_name (i := 3) sc__law_order.nd rfl (by first | exact .inl rfl | exact .inr rfl))) (pdgs_cons (pdg_name (i := 4) (pg_name (i := 4) sc__law_order.nd rfl (by first | exact .inl rfl | exact .inr rfl))) pdgs_nil))) (pdss_cons (pds_set (ps_set (i := 5) sc__law_order.nd rfl (by first | exact .inl rfl | exact .inr rfl) (pd_if (pdt_eq (pd_var 3 (pv 3)) pd_str) (pd_lc true (own := [("k", 7)]) (ws := [7]) (g := (gN 7)) (t := tYesD) (e := (cVar 7)) rfl sc__law_order.nd (pdi_range1 T.b_range (pd_len T.b_len (pda_cons (pd_var 4 (pv 4)) pda_nil))) (blkOk_by (own := [("k", 7)]) (N := N__law_order) (sc := defScope (top 28)) (by decide +kernel)) (by decide) (fun _ _ _ _ _ => (pdg_name (i := 7) (pg_name (i := 7) sc__law_order.nd rfl (by first | exact .inl rfl | exact .inr rfl)))) (fun _ _ _ _ _ => pdts_nil) (fun _ _ _ _ _ => (pd_var 7 (pv 7)))) (pd_lstB pda_nil))))
  (pdss_cons (pds_set (ps_set (i := 6) sc__law_order.nd rfl (by first | exact .inl rfl | exact .inr rfl) (pd_lstB pda_nil)))
  (pdss_cons (pds_while PassesOwn.never (pdt_gt (pd_len T.b_len (pda_cons (pd_var 5 (pv 5)) pda_nil)) pd_int) (pdss_one (pds_expr (pd_append (pd_var 6 (pv 6)) (pda_cons (pd_popAt (pd_var 5 (pv 5)) (pda_cons (pd_if (pdt_gt (pd_len T.b_len (pda_cons (pd_var 5 (pv 5)) pda_nil)) pd_int) (pd_callD hr (D__law_wont.mono (by first | decide | omega)) (pda_cons (pd_var 0 (pv 0)) (pda_cons pd_str (pda_cons pd_int pda_nil)))) (pd_callD hr (D__law_roll.mono (by first | decide | omega)) (pda_cons (pd_var 0 (pv 0)) (pda_cons (pd_len T.b_len (pda_cons (pd_var 5 (pv 5)) pda_nil)) pda_nil)))) pda_nil)) pda_nil)))))
  (pdss_one (pds_expr (pd_append (pd_var 2 (pv 2)) (pda_cons (pd_tuple T.b_tuple (pda_cons (pd_var 6 (pv 6)) pda_nil)) pda_nil))))))))
  (pdss_one (pds_ret (pd_tuple T.b_tuple (pda_cons (pd_var 2 (pv 2)) pda_nil))))))
abbrev N__law_book : List Str := ["spool", "tanks", "count", "widest", "most", "standings", "standing", "moves", "place", "pours", "tank"]
theorem sc__law_book : FnScope N__law_book ["spool", "tanks", "count", "widest", "most"] (defScope (top 27)) := ⟨rfl, rfl, rfl, by decide +kernel, rfl, by decide +kernel, by decide +kernel⟩
theorem ok__law_book (T : Tx K mg) (D__law_roll : DefOk P w K mg base "_law_roll" 1 ["spool", "many"] f__law_roll) (D__law_wont : DefOk P w K mg base "_law_wont" 2 ["spool", "place", "many"] f__law_wont) : DefOk P w K mg base "_law_book" 3 ["spool", "tanks", "count", "widest", "most"] f__law_book := by
  obtain ⟨f, fd, F, hm⟩ := T.d__law_book
  refine ⟨f, fd, fnD (N := N__law_book) (c := c__law_book) (k := 2) F sc__law_book (fun cdv A outer s H E hr => ?_), hm, F.kp, F.bindsN fun _ _ _ _ _ _ us hl => match us, hl with | [_, _, _, _, _], _ => rfl, fdAt_of F⟩
  exact (pdss_cons (pds_set (ps_set (i := 5) sc__law_book.nd rfl (by first | exact .inl rfl | exact .inr rfl) (pd_lstB pda_nil)))
  (pdss_cons (pds_for PassesOwn.never rfl (pdi_range1 T.b_range (pd_var 2 (pv 2))) (pdg_name (i := 6) (pg_name (i := 6) sc__law_book.nd rfl (by first | exact .inl rfl | exact .inr rfl))) (pdss_cons (pds_set (ps_set (i := 7) sc__law_book.nd rfl (by first | exact .inl rfl | exact .inr rfl) (pd_lstB pda_nil)))
  (pdss_cons (pds_for PassesOwn.never rfl (pdi_range1 T.b_range (pd_if (pdt_gt (pd_callD hr (D__law_roll.mono (by first | decide | omega)) (pda_cons (pd_var 0 (pv 0)) (pda_cons pd_int pda_nil))) pd_int) (pd_add pd_int (pd_callD hr (D__law_roll.mono (by first | decide | omega)) (pda_cons (pd_var 0 (pv 0)) (pda_cons (pd_var 4 (pv 4)) pda_nil)))) pd_int)) (pdg_name (i := 8) (pg_name (i := 8) sc__law_book.nd rfl (by first | exact .inl rfl | exact .inr rfl))) (pdss_cons (pds_set (ps_set (i := 9) sc__law_book.nd rfl (by first | exact .inl rfl | exact .inr rfl) (pd_tuple T.b_tuple (pda_cons (pd_lc false (own := [("tank", 10)]) (ws := [10]) (g := (gN 10)) (t := tYesD) (e := (cBin subD (cApp (nD 3 f__law_wont) (cCons (cVar 0) (cCons (cC (.str "pour")) (cCons (cBin addD (cBin mulD (cC (.int 2)) (cVar 3)) (cC (.int 1))) cNil)))) (cVar 3))) rfl sc__law_book.nd (pdi_range1 T.b_range (pd_var 1 (pv 1))) (blkOk_by (own := [("tank", 10)]) (N := N__law_book) (sc := defScope (top 27)) (by decide +kernel)) (by decide) (fun _ _ _ _ _ => (pdg_name (i := 10) (pg_name (i := 10) sc__law_book.nd rfl (by first | exact .inl rfl | exact .inr rfl)))) (fun _ _ _ _ _ => pdts_nil) (fun _ _ _ _ _ => (pd_sub (pd_callD hr (D__law_wont.mono (by first | decide | omega)) (pda_cons (pd_var 0 (pv 0)) (pda_cons pd_str (pda_cons (pd_add (pd_mul pd_int (pd_var 3 (pv 3))) pd_int) pda_nil)))) (pd_var 3 (pv 3))))) pda_nil))))
  (pdss_one (pds_expr (pd_append (pd_var 7 (pv 7)) (pda_cons (pd_tup (pda_cons (pd_add (pd_ix pd_str (pd_callD hr (D__law_roll.mono (by first | decide | omega)) (pda_cons (pd_var 0 (pv 0)) (pda_cons pd_int pda_nil)))) (pd_str' T.b_str (pda_cons (pd_var 8 (pv 8)) pda_nil))) (pda_cons (pd_var 9 (pv 9)) (pda_cons (pd_callD hr (D__law_roll.mono (by first | decide | omega)) (pda_cons (pd_var 0 (pv 0)) (pda_cons (pd_var 2 (pv 2)) pda_nil))) pda_nil)))) pda_nil))))))
  (pdss_one (pds_expr (pd_append (pd_var 5 (pv 5)) (pda_cons (pd_tup (pda_cons (pd_ix (pd_tup (pda_cons pd_str (pda_cons pd_str pda_nil))) (pd_callD hr (D__law_roll.mono (by first | decide | omega)) (pda_cons (pd_var 0 (pv 0)) (pda_cons pd_int pda_nil)))) (pda_cons (pd_tuple T.b_tuple (pda_cons (pd_var 7 (pv 7)) pda_nil)) pda_nil))) pda_nil)))))))
  (pdss_one (pds_ret (pd_tup (pda_cons (pd_var 1 (pv 1)) (pda_cons (pd_tuple T.b_tuple (pda_cons (pd_var 5 (pv 5)) pda_nil)) pda_nil)))))))
abbrev N_order_levels : List Str := ["book", "start", "order", "many", "number", "levels", "_"]
theorem sc_order_levels : FnScope N_order_levels ["book", "start", "order", "many"] (defScope (top 15)) := ⟨rfl, rfl, rfl, by decide +kernel, rfl, by decide +kernel, by decide +kernel⟩
theorem ok_order_levels (T : Tx K mg) (D_beaten_within : DefOk P w K mg base "beaten_within" 4 ["book", "start", "levels", "order", "most"] f_beaten_within) : DefOk P w K mg base "order_levels" 5 ["book", "start", "order", "many"] f_order_levels := by
  obtain ⟨f, fd, F, hm⟩ := T.d_order_levels
  refine ⟨f, fd, fnD (N := N_order_levels) (c := c_order_levels) (k := 4) F sc_order_levels (fun cdv A outer s H E hr => ?_), hm, F.kp, F.bindsN fun _ _ _ _ _ _ us hl => match us, hl with | [_, _, _, _], _ => rfl, fdAt_of F⟩
  exact (pdss_cons (pds_for PassesOwn.never rfl (pdi_range1 T.b_range (pd_add (pd_globE rfl T.g_LEVELS_MOST) pd_int)) (pdg_name (i := 4) (pg_name (i := 4) sc_order_levels.nd rfl (by first | exact .inl rfl | exact .inr rfl))) (pdss_cons (pds_set (ps_set (i := 5) sc_order_levels.nd rfl (by first | exact .inl rfl | exact .inr rfl) (pd_tuple T.b_tuple (pda_cons (pd_lc false (own := [("_", 6)]) (ws := [6]) (g := (gN 6)) (t := tYesD) (e := (cVar 4)) rfl sc_order_levels.nd (pdi_range1 T.b_range (pd_ix (pd_var 0 (pv 0)) pd_int)) (blkOk_by (own := [("_", 6)]) (N := N_order_levels) (sc := defScope (top 15)) (by decide +kernel)) (by decide) (fun _ _ _ _ _ => (pdg_name (i := 6) (pg_name (i := 6) sc_order_levels.nd rfl (by first | exact .inl rfl | exact .inr rfl)))) (fun _ _ _ _ _ => pdts_nil) (fun _ _ _ _ _ => (pd_var 4 (pv 4)))) pda_nil))))
  (pdss_one (pds_if (pdt_isN (pd_callD hr (D_beaten_within.mono (by first | decide | omega)) (pda_cons (pd_var 0 (pv 0)) (pda_cons (pd_var 1 (pv 1)) (pda_cons (pd_var 5 (pv 5)) (pda_cons (pd_var 2 (pv 2)) (pda_cons (pd_var 3 (pv 3)) pda_nil)))))) pd_non) (pdss_one (pds_ret (pd_var 4 (pv 4)))) pdss_nil))))
  (pdss_one (pds_ret pd_non)))
abbrev N__law_alike : List Str := ["told", "due", "k"]
theorem sc__law_alike : FnScope N__law_alike ["told", "due"] (defScope (top 26)) := ⟨rfl, rfl, rfl, by decide +kernel, rfl, by decide +kernel, by decide +kernel⟩
theorem okr__law_alike (T : Tx K mg)  : ∀ n : Nat, DefOk P w K mg base "_law_alike" (0 + n) ["told", "due"] (fr__law_alike n)
  | 0 => DefOk.none T.d__law_alike fun _ _ F => F.bindsN fun _ _ _ _ _ _ us hl => match us, hl with | [_, _], _ => rfl
  | n + 1 => by
    have D__law_alike := okr__law_alike T  n
    obtain ⟨f, fd, F, hm⟩ := T.d__law_alike
    refine ⟨f, fd, fnD (N := N__law_alike) (c := c__law_alike (fr__law_alike n)) (k := 0 + n) F sc__law_alike (fun cdv A outer s H E hr => ?_), hm, F.kp, F.bindsN fun _ _ _ _ _ _ us hl => match us, hl with | [_, _], _ => rfl, fdAt_of F⟩
    exact (pdss_cons (pds_if (pdt_val (pd_isi (T := "tuple") (t := "tuple") T.b_isinstance (pd_var 1 (pv 1)) T.b_tuple (by decide +kernel))) (pdss_cons (pds_if (par_of (pdw_or (pdt_not (pdt_val (pd_isi (T := "tuple") (t := "tuple") T.b_isinstance (pd_var 0 (pv 0)) T.b_tuple (by decide +kernel)))) (pdw_or1 (pdt_ne (pd_len T.b_len (pda_cons (pd_var 0 (pv 0)) pda_nil)) (pd_len T.b_len (pda_cons (pd_var 1 (pv 1)) pda_nil)))))) (pdss_one (pds_ret pd_bl)) pdss_nil)
  (pdss_cons (pds_for PassesOwn.never rfl (pdi_range1 T.b_range (pd_len T.b_len (pda_cons (pd_var 1 (pv 1)) pda_nil))) (pdg_name (i := 2) (pg_name (i := 2) sc__law_alike.nd rfl (by first | exact .inl rfl | exact .inr rfl))) (pdss_one (pds_if (pdt_not (pdt_val (pd_callD hr (D__law_alike.mono (by omega)) (pda_cons (pd_ix (pd_var 0 (pv 0)) (pd_var 2 (pv 2))) (pda_cons (pd_ix (pd_var 1 (pv 1)) (pd_var 2 (pv 2))) pda_nil))))) (pdss_one (pds_ret pd_bl)) pdss_nil)))
  (pdss_one (pds_ret pd_bl)))) pdss_nil)
  (pdss_cons (pds_if (par_of (pdw_or (pdt_isN (pd_var 1 (pv 1)) pd_non) (pdw_or1 (pdt_val (pd_isi (T := "bool") (t := "bool") T.b_isinstance (pd_var 1 (pv 1)) T.b_bool (by decide +kernel)))))) (pdss_one (pds_ret (pd_if (pdt_isN (pd_var 1 (pv 1)) pd_non) (pd_isN (pd_var 0 (pv 0)) pd_non) (pd_and (pd_isi (T := "bool") (t := "bool") T.b_isinstance (pd_var 0 (pv 0)) T.b_bool (by decide +kernel)) (pd_one (pd_eq (pd_var 0 (pv 0)) (pd_var 1 (pv 1)))))))) pdss_nil)
  (pdss_cons (pds_if (pdt_val (pd_isi (T := "int") (t := "int") T.b_isinstance (pd_var 1 (pv 1)) T.b_int (by decide +kernel))) (pdss_one (pds_ret (pd_and (pd_isi (T := "int") (t := "int") T.b_isinstance (pd_var 0 (pv 0)) T.b_int (by decide +kernel)) (pd_and (pd_not (pd_isi (T := "bool") (t := "bool") T.b_isinstance (pd_var 0 (pv 0)) T.b_bool (by decide +kernel))) (pd_one (pd_eq (pd_var 0 (pv 0)) (pd_var 1 (pv 1)))))))) pdss_nil)
  (pdss_one (pds_ret (pd_and (pd_isi (T := "str") (t := "str") T.b_isinstance (pd_var 0 (pv 0)) T.b_str (by decide +kernel)) (pd_one (pd_eq (pd_var 0 (pv 0)) (pd_var 1 (pv 1))))))))))
theorem ok__law_alike (T : Tx K mg)  : DefOk P w K mg base "_law_alike" 4 ["told", "due"] f__law_alike := okr__law_alike T  4
abbrev N__law_wide : List Str := ["spool", "great", "book", "small", "order"]
theorem sc__law_wide : FnScope N__law_wide ["spool"] (defScope (top 42)) := ⟨rfl, rfl, rfl, by decide +kernel, rfl, by decide +kernel, by decide +kernel⟩
theorem ok__law_wide (T : Tx K mg) (D__law_roll : DefOk P w K mg base "_law_roll" 1 ["spool", "many"] f__law_roll) (D__law_beaten : DefOk P w K mg base "_law_beaten" 6 ["book", "start", "levels", "order", "most"] f__law_beaten) (D__law_order : DefOk P w K mg base "_law_order" 3 ["spool", "book"] f__law_order) (D__law_book : DefOk P w K mg base "_law_book" 3 ["spool", "tanks", "count", "widest", "most"] f__law_book) (D_order_levels : DefOk P w K mg base "order_levels" 5 ["book", "start", "order", "many"] f_order_levels) (D__law_alike : DefOk P w K mg base "_law_alike" 4 ["told", "due"] f__law_alike) : DefOk P w K mg base "_law_wide" 7 ["spool"] f__law_wide := by
  obtain ⟨f, fd, F, hm⟩ := T.d__law_wide
  refine ⟨f, fd, fnD (N := N__law_wide) (c := c__law_wide) (k := 6) F sc__law_wide (fun cdv A outer s H E hr => ?_), hm, F.kp, F.bindsN fun _ _ _ _ _ _ us hl => match us, hl with | [_], _ => rfl, fdAt_of F⟩
  exact (pdss_cons (pds_if (pdt_eq (pd_callD hr (D__law_roll.mono (by first | decide | omega)) (pda_cons (pd_var 0 (pv 0)) (pda_cons pd_int pda_nil))) pd_int) (pdss_cons (pds_set (ps_set (i := 1) sc__law_wide.nd rfl (by first | exact .inl rfl | exact .inr rfl) (pd_add pd_int (pd_callD hr (D__law_roll.mono (by first | decide | omega)) (pda_cons (pd_var 0 (pv 0)) (pda_cons pd_int pda_nil))))))
  (pdss_cons (pds_set (ps_set (i := 2) sc__law_wide.nd rfl (by first | exact .inl rfl | exact .inr rfl) (pd_tup (pda_cons pd_int (pda_cons (pd_tup (pda_cons (pd_tup (pda_cons pd_str (pda_cons (pd_tup (pda_cons (pd_tup (pda_cons pd_str (pda_cons (pd_tup (pda_cons (pd_sub pd_int (pd_var 1 (pv 1))) pda_nil)) (pda_cons pd_int pda_nil)))) (pda_cons (pd_tup (pda_cons pd_str (pda_cons (pd_tup (pda_cons pd_int pda_nil)) (pda_cons pd_int pda_nil)))) pda_nil))) pda_nil))) pda_nil)) pda_nil)))))
  (pdss_cons (pds_if (par_of (pdw_or (pdt_notN (pd_callD hr (D_order_levels.mono (by first | decide | omega)) (pda_cons (pd_var 2 (pv 2)) (pda_cons pd_int (pda_cons (pd_tup (pda_cons (pd_tup pda_nil) pda_nil)) (pda_cons pd_int pda_nil))))) pd_non) (pdw_or1 (pdt_not (pdt_val (pd_callD hr (D__law_alike.mono (by first | decide | omega)) (pda_cons (pd_callD hr (D_order_levels.mono (by first | decide | omega)) (pda_cons (pd_var 2 (pv 2)) (pda_cons pd_int (pda_cons (pd_tup (pda_cons (pd_tup pda_nil) pda_nil)) (pda_cons pd_int pda_nil))))) (pda_cons pd_int pda_nil)))))))) (pdss_one (pds_ret pd_bl)) pdss_nil)
  (pdss_cons (pds_set (ps_set (i := 3) sc__law_wide.nd rfl (by first | exact .inl rfl | exact .inr rfl) (pd_add pd_int (pd_callD hr (D__law_roll.mono (by first | decide | omega)) (pda_cons (pd_var 0 (pv 0)) (pda_cons pd_int pda_nil))))))
  (pdss_cons (pds_set (ps_set (i := 2) sc__law_wide.nd rfl (by first | exact .inl rfl | exact .inr rfl) (pd_tup (pda_cons pd_int (pda_cons (pd_tup (pda_cons (pd_tup (pda_cons pd_str (pda_cons (pd_tup (pda_cons (pd_tup (pda_cons pd_str (pda_cons (pd_tup (pda_cons pd_int pda_nil)) (pda_cons pd_int pda_nil)))) (pda_cons (pd_tup (pda_cons pd_str (pda_cons (pd_tup (pda_cons (pd_sub pd_int (pd_var 3 (pv 3))) pda_nil)) (pda_cons pd_int pda_nil)))) pda_nil))) pda_nil))) pda_nil)) pda_nil)))))
  (pdss_one (pds_ret (pd_and (pd_callD hr (D__law_alike.mono (by first | decide | omega)) (pda_cons (pd_callD hr (D_order_levels.mono (by first | decide | omega)) (pda_cons (pd_var 2 (pv 2)) (pda_cons pd_int (pda_cons (pd_tup (pda_cons (pd_tup pda_nil) pda_nil)) (pda_cons pd_int pda_nil))))) (pda_cons (pd_var 3 (pv 3)) pda_nil))) (pd_one (pd_callD hr (D__law_beaten.mono (by first | decide | omega)) (pda_cons (pd_var 2 (pv 2)) (pda_cons pd_int (pda_cons (pd_tup (pda_cons (pd_mul pd_int (pd_var 3 (pv 3))) pda_nil)) (pda_cons (pd_tup (pda_cons (pd_tup pda_nil) pda_nil)) (pda_cons pd_int pda_nil))))))))))))))) pdss_nil)
  (pdss_cons (pds_set (ps_set (i := 2) sc__law_wide.nd rfl (by first | exact .inl rfl | exact .inr rfl) (pd_callD hr (D__law_book.mono (by first | decide | omega)) (pda_cons (pd_var 0 (pv 0)) (pda_cons pd_int (pda_cons pd_int (pda_cons pd_int (pda_cons pd_int pda_nil))))))))
  (pdss_cons (pds_set (ps_set (i := 4) sc__law_wide.nd rfl (by first | exact .inl rfl | exact .inr rfl) (pd_callD hr (D__law_order.mono (by first | decide | omega)) (pda_cons (pd_var 0 (pv 0)) (pda_cons (pd_var 2 (pv 2)) pda_nil)))))
  (pdss_one (pds_ret (pd_callD hr (D__law_beaten.mono (by first | decide | omega)) (pda_cons (pd_var 2 (pv 2)) (pda_cons (pd_callD hr (D__law_roll.mono (by first | decide | omega)) (pda_cons (pd_var 0 (pv 0)) (pda_cons pd_int pda_nil))) (pda_cons (pd_tup (pda_cons (pd_add pd_int (pd_callD hr (D__law_roll.mono (by first | decide | omega)) (pda_cons (pd_var 0 (pv 0)) (pda_cons pd_int pda_nil)))) pda_nil)) (pda_cons (pd_var 4 (pv 4)) (pda_cons pd_int pda_nil)))))))))))
abbrev N__law_enough : List Str := ["book", "start", "order", "many", "top", "due", "number", "least"]
theorem sc__law_enough : FnScope N__law_enough ["book", "start", "order", "many", "top"] (defScope (top 38)) := ⟨rfl, rfl, rfl, by decide +kernel, rfl, by decide +kernel, by decide +kernel⟩
theorem ok__law_enough (T : Tx K mg) (D_order_levels : DefOk P w K mg base "order_levels" 5 ["book", "start", "order", "many"] f_order_levels) (D__law_alike : DefOk P w K mg base "_law_alike" 4 ["told", "due"] f__law_alike) (D__law_fewest : DefOk P w K mg base "_law_fewest" 5 ["book", "start", "levels", "order", "most", "sizes"] f__law_fewest) : DefOk P w K mg base "_law_enough" 6 ["book", "start", "order", "many", "top"] f__law_enough := by
  obtain ⟨f, fd, F, hm⟩ := T.d__law_enough
  refine ⟨f, fd, fnD (N := N__law_enough) (c := c__law_enough) (k := 5) F sc__law_enough (fun cdv A outer s H E hr => ?_), hm, F.kp, F.bindsN fun _ _ _ _ _ _ us hl => match us, hl with | [_, _, _, _, _], _ => rfl, fdAt_of F⟩
  exact (pdss_cons (pds_set (ps_set (i := 5) sc__law_enough.nd rfl (by first | exact .inl rfl | exact .inr rfl) pd_non))
  (pdss_cons (pds_for PassesOwn.never rfl (pdi_range1 T.b_range (pd_add (pd_min rfl hr.units T.b_min (pda_cons pd_int (pda_cons (pd_var 4 (pv 4)) pda_nil))) pd_int)) (pdg_name (i := 6) (pg_name (i := 6) sc__law_enough.nd rfl (by first | exact .inl rfl | exact .inr rfl))) (pdss_cons (pds_set (ps_set (i := 7) sc__law_enough.nd rfl (by first | exact .inl rfl | exact .inr rfl) (pd_callD hr (D__law_fewest.mono (by first | decide | omega)) (pda_cons (pd_var 0 (pv 0)) (pda_cons (pd_var 1 (pv 1)) (pda_cons (pd_rep (pd_tup (pda_cons (pd_var 6 (pv 6)) pda_nil)) (pd_ix (pd_var 0 (pv 0)) pd_int)) (pda_cons (pd_var 2 (pv 2)) (pda_cons (pd_var 3 (pv 3)) (pda_cons pd_non pda_nil)))))))))
  (pdss_cons (pds_if (par_of (pdw_and (pdt_notN (pd_var 7 (pv 7)) pd_non) (pdw_and1 (pdt_lt (pd_var 7 (pv 7)) pd_int)))) (pdss_one (pds_ret pd_bl)) pdss_nil)
  (pdss_one (pds_if (pdt_isN (pd_var 7 (pv 7)) pd_non) (pdss_cons (pds_set (ps_set (i := 5) sc__law_enough.nd rfl (by first | exact .inl rfl | exact .inr rfl) (pd_var 6 (pv 6))))
  (pdss_one pds_break)) pdss_nil)))))
  (pdss_one (pds_ret (pd_callD hr (D__law_alike.mono (by first | decide | omega)) (pda_cons (pd_callD hr (D_order_levels.mono (by first | decide | omega)) (pda_cons (pd_var 0 (pv 0)) (pda_cons (pd_var 1 (pv 1)) (pda_cons (pd_var 2 (pv 2)) (pda_cons (pd_var 3 (pv 3)) pda_nil))))) (pda_cons (pd_var 5 (pv 5)) pda_nil)))))))
abbrev N__law_asked : List Str := ["spool", "book", "most", "order", "start", "lap", "levels", "fewest", "many", "k"]
theorem sc__law_asked : FnScope N__law_asked ["spool", "book", "most"] (defScope (top 39)) := ⟨rfl, rfl, rfl, by decide +kernel, rfl, by decide +kernel, by decide +kernel⟩
theorem ok__law_asked (T : Tx K mg) (D__law_enough : DefOk P w K mg base "_law_enough" 6 ["book", "start", "order", "many", "top"] f__law_enough) (D__law_roll : DefOk P w K mg base "_law_roll" 1 ["spool", "many"] f__law_roll) (D__law_beaten : DefOk P w K mg base "_law_beaten" 6 ["book", "start", "levels", "order", "most"] f__law_beaten) (D__law_fewest : DefOk P w K mg base "_law_fewest" 5 ["book", "start", "levels", "order", "most", "sizes"] f__law_fewest) (D__law_wont : DefOk P w K mg base "_law_wont" 2 ["spool", "place", "many"] f__law_wont) (D__law_order : DefOk P w K mg base "_law_order" 3 ["spool", "book"] f__law_order) : DefOk P w K mg base "_law_asked" 7 ["spool", "book", "most"] f__law_asked := by
  obtain ⟨f, fd, F, hm⟩ := T.d__law_asked
  refine ⟨f, fd, fnD (N := N__law_asked) (c := c__law_asked) (k := 6) F sc__law_asked (fun cdv A outer s H E hr => ?_), hm, F.kp, F.bindsN fun _ _ _ _ _ _ us hl => match us, hl with | [_, _, _], _ => rfl, fdAt_of F⟩
  exact (pdss_cons (pds_set (ps_set (i := 3) sc__law_asked.nd rfl (by first | exact .inl rfl | exact .inr rfl) (pd_callD hr (D__law_order.mono (by first | decide | omega)) (pda_cons (pd_var 0 (pv 0)) (pda_cons (pd_var 1 (pv 1)) pda_nil)))))
  (pdss_cons (pds_set (ps_set (i := 4) sc__law_asked.nd rfl (by first | exact .inl rfl | exact .inr rfl) (pd_callD hr (D__law_roll.mono (by first | decide | omega)) (pda_cons (pd_var 0 (pv 0)) (pda_cons (pd_len T.b_len (pda_cons (pd_ix (pd_var 1 (pv 1)) pd_int) pda_nil)) pda_nil)))))
  (pdss_cons (pds_for PassesOwn.never rfl (pdi_range1 T.b_range pd_int) (pdg_name (i := 5) (pg_name (i := 5) sc__law_asked.nd rfl (by first | exact .inl rfl | exact .inr rfl))) (pdss_cons (pds_set (ps_set (i := 6) sc__law_asked.nd rfl (by first | exact .inl rfl | exact .inr rfl) (pd_tuple T.b_tuple (pda_cons (pd_lc false (own := [("k", 9)]) (ws := [9]) (g := (gN 9)) (t := tYesD) (e := (cApp (nD 3 f__law_wont) (cCons (cVar 0) (cCons (cC (.str "level")) (cCons (cC (.int 5)) cNil))))) rfl sc__law_asked.nd (pdi_range1 T.b_range (pd_ix (pd_var 1 (pv 1)) pd_int)) (blkOk_by (own := [("k", 9)]) (N := N__law_asked) (sc := defScope (top 39)) (by decide +kernel)) (by decide) (fun _ _ _ _ _ => (pdg_name (i := 9) (pg_name (i := 9) sc__law_asked.nd rfl (by first | exact .inl rfl | exact .inr rfl)))) (fun _ _ _ _ _ => pdts_nil) (fun _ _ _ _ _ => (pd_callD hr (D__law_wont.mono (by first | decide | omega)) (pda_cons (pd_var 0 (pv 0)) (pda_cons pd_str (pda_cons pd_int pda_nil)))))) pda_nil))))
  (pdss_one (pds_if (pdt_not (pdt_val (pd_callD hr (D__law_beaten.mono (by first | decide | omega)) (pda_cons (pd_var 1 (pv 1)) (pda_cons (pd_var 4 (pv 4)) (pda_cons (pd_var 6 (pv 6)) (pda_cons (pd_var 3 (pv 3)) (pda_cons (pd_callD hr (D__law_roll.mono (by first | decide | omega)) (pda_cons (pd_var 0 (pv 0)) (pda_cons (pd_add (pd_var 2 (pv 2)) pd_int) pda_nil))) pda_nil)))))))) (pdss_one (pds_ret pd_bl)) pdss_nil))))
  (pdss_cons (pds_set (ps_set (i := 7) sc__law_asked.nd rfl (by first | exact .inl rfl | exact .inr rfl) (pd_callD hr (D__law_fewest.mono (by first | decide | omega)) (pda_cons (pd_var 1 (pv 1)) (pda_cons (pd_var 4 (pv 4)) (pda_cons (pd_var 6 (pv 6)) (pda_cons (pd_var 3 (pv 3)) (pda_cons (pd_var 2 (pv 2)) (pda_cons pd_non pda_nil)))))))))
  (pdss_cons (pds_if (par_of (pdw_and (pdt_notN (pd_var 7 (pv 7)) pd_non) (pdw_and1 (pdt_gt (pd_var 7 (pv 7)) pd_int)))) (pdss_one (pds_if (par_of (pdw_or (pdt_not (pdt_val (pd_callD hr (D__law_beaten.mono (by first | decide | omega)) (pda_cons (pd_var 1 (pv 1)) (pda_cons (pd_var 4 (pv 4)) (pda_cons (pd_var 6 (pv 6)) (pda_cons (pd_var 3 (pv 3)) (pda_cons (pd_var 7 (pv 7)) pda_nil)))))))) (pdw_or1 (pdt_not (pdt_val (pd_callD hr (D__law_beaten.mono (by first | decide | omega)) (pda_cons (pd_var 1 (pv 1)) (pda_cons (pd_var 4 (pv 4)) (pda_cons (pd_var 6 (pv 6)) (pda_cons (pd_var 3 (pv 3)) (pda_cons (pd_sub (pd_var 7 (pv 7)) pd_int) pda_nil))))))))))) (pdss_one (pds_ret pd_bl)) pdss_nil)) pdss_nil)
  (pdss_cons (pds_set (ps_set (i := 8) sc__law_asked.nd rfl (by first | exact .inl rfl | exact .inr rfl) (pd_callD hr (D__law_roll.mono (by first | decide | omega)) (pda_cons (pd_var 0 (pv 0)) (pda_cons (pd_add pd_int (pd_fdiv (pd_var 2 (pv 2)) pd_int)) pda_nil)))))
  (pdss_one (pds_ret (pd_callD hr (D__law_enough.mono (by first | decide | omega)) (pda_cons (pd_var 1 (pv 1)) (pda_cons (pd_var 4 (pv 4)) (pda_cons (pd_var 3 (pv 3)) (pda_cons (pd_var 8 (pv 8)) (pda_cons (pd_mul pd_int (pd_var 8 (pv 8))) pda_nil))))))))))))))
abbrev N_worth_by : List Str := ["rule", "levels"]
theorem sc_worth_by : FnScope N_worth_by ["rule", "levels"] (defScope (top 17)) := ⟨rfl, rfl, rfl, by decide +kernel, rfl, by decide +kernel, by decide +kernel⟩
theorem ok_worth_by (T : Tx K mg)  : DefOk P w K mg base "worth_by" 1 ["rule", "levels"] f_worth_by := by
  obtain ⟨f, fd, F, hm⟩ := T.d_worth_by
  refine ⟨f, fd, fnD (N := N_worth_by) (c := c_worth_by) (k := 0) F sc_worth_by (fun cdv A outer s H E hr => ?_), hm, F.kp, F.bindsN fun _ _ _ _ _ _ us hl => match us, hl with | [_, _], _ => rfl, fdAt_of F⟩
  exact (pdss_cons (pds_if (pdt_eq (pd_var 0 (pv 0)) pd_str) (pdss_one (pds_ret (pd_sum3 rfl T.b_sum (pda_cons (pd_var 1 (pv 1)) pda_nil)))) pdss_nil)
  (pdss_one (pds_ret (pd_if (pdt_eq (pd_var 0 (pv 0)) pd_str) (pd_min rfl hr.units T.b_min (pda_cons (pd_var 1 (pv 1)) pda_nil)) pd_int))))
abbrev N_rule_move : List Str := ["book", "rule", "standing", "levels", "best", "number", "move", "there", "worth"]
theorem sc_rule_move : FnScope N_rule_move ["book", "rule", "standing", "levels"] (defScope (top 18)) := ⟨rfl, rfl, rfl, by decide +kernel, rfl, by decide +kernel, by decide +kernel⟩
theorem ok_rule_move (T : Tx K mg) (D_moves_of : DefOk P w K mg base "moves_of" 1 ["book", "standing"] f_moves_of) (D_is_dry : DefOk P w K mg base "is_dry" 1 ["levels"] f_is_dry) (D_worth_by : DefOk P w K mg base "worth_by" 1 ["rule", "levels"] f_worth_by) (D_poured : DefOk P w K mg base "poured" 1 ["levels", "pours"] f_poured) : DefOk P w K mg base "rule_move" 2 ["book", "rule", "standing", "levels"] f_rule_move := by
  obtain ⟨f, fd, F, hm⟩ := T.d_rule_move
  refine ⟨f, fd, fnD (N := N_rule_move) (c := c_rule_move) (k := 1) F sc_rule_move (fun cdv A outer s H E hr => ?_), hm, F.kp, F.bindsN fun _ _ _ _ _ _ us hl => match us, hl with | [_, _, _, _], _ => rfl, fdAt_of F⟩
  exact (pdss_cons (pds_set (ps_set (i := 4) sc_rule_move.nd rfl (by first | exact .inl rfl | exact .inr rfl) pd_non))
  (pdss_cons (pds_for PassesOwn.never rfl (pdi_enum T.b_enumerate (pd_callD hr (D_moves_of.mono (by first | decide | omega)) (pda_cons (pd_var 0 (pv 0)) (pda_cons (pd_var 2 (pv 2)) pda_nil)))) (pdg_tup rfl (pdgs_cons (pdg_name (i := 5) (pg_name (i := 5) sc_rule_move.nd rfl (by first | exact .inl rfl | exact .inr rfl))) (pdgs_cons (pdg_name (i := 6) (pg_name (i := 6) sc_rule_move.nd rfl (by first | exact .inl rfl | exact .inr rfl))) pdgs_nil))) (pdss_cons (pds_set (ps_set (i := 7) sc_rule_move.nd rfl (by first | exact .inl rfl | exact .inr rfl) (pd_callD hr (D_poured.mono (by first | decide | omega)) (pda_cons (pd_var 3 (pv 3)) (pda_cons (pd_ix (pd_var 6 (pv 6)) pd_int) pda_nil)))))
  (pdss_one (pds_if (pdt_not (pdt_val (pd_callD hr (D_is_dry.mono (by first | decide | omega)) (pda_cons (pd_var 7 (pv 7)) pda_nil)))) (pdss_cons (pds_set (ps_set (i := 8) sc_rule_move.nd rfl (by first | exact .inl rfl | exact .inr rfl) (pd_callD hr (D_worth_by.mono (by first | decide | omega)) (pda_cons (pd_var 1 (pv 1)) (pda_cons (pd_var 7 (pv 7)) pda_nil)))))
  (pdss_one (pds_if (par_of (pdw_or (pdt_isN (pd_var 4 (pv 4)) pd_non) (pdw_or1 (pdt_gt (pd_var 8 (pv 8)) (pd_ix (pd_var 4 (pv 4)) pd_int))))) (pdss_one (pds_set (ps_set (i := 4) sc_rule_move.nd rfl (by first | exact .inl rfl | exact .inr rfl) (pd_tup (pda_cons (pd_var 8 (pv 8)) (pda_cons (pd_var 5 (pv 5)) pda_nil)))))) pdss_nil))) pdss_nil))))
  (pdss_one (pds_ret (pd_if (pdt_isN (pd_var 4 (pv 4)) pd_non) pd_int (pd_ix (pd_var 4 (pv 4)) pd_int))))))
abbrev N_numbers_by : List Str := ["book", "rule", "place", "standing", "levels"]
theorem sc_numbers_by : FnScope N_numbers_by ["book", "rule", "place"] (defScope (top 19)) := ⟨rfl, rfl, rfl, by decide +kernel, rfl, by decide +kernel, by decide +kernel⟩
theorem ok_numbers_by (T : Tx K mg) (D_moves_of : DefOk P w K mg base "moves_of" 1 ["book", "standing"] f_moves_of) (D_owner_of : DefOk P w K mg base "owner_of" 1 ["book", "standing"] f_owner_of) (D_rule_move : DefOk P w K mg base "rule_move" 2 ["book", "rule", "standing", "levels"] f_rule_move) (D_is_rest : DefOk P w K mg base "is_rest" 1 ["book", "standing"] f_is_rest) : DefOk P w K mg base "numbers_by" 3 ["book", "rule", "place"] f_numbers_by := by
  obtain ⟨f, fd, F, hm⟩ := T.d_numbers_by
  refine ⟨f, fd, fnD (N := N_numbers_by) (c := c_numbers_by) (k := 2) F sc_numbers_by (fun cdv A outer s H E hr => ?_), hm, F.kp, F.bindsN fun _ _ _ _ _ _ us hl => match us, hl with | [_, _, _], _ => rfl, fdAt_of F⟩
  exact (pdss_cons (pds_asg (pd_var 2 (pv 2)) (pdg_tup rfl (pdgs_cons (pdg_name (i := 3) (pg_name (i := 3) sc_numbers_by.nd rfl (by first | exact .inl rfl | exact .inr rfl))) (pdgs_cons (pdg_name (i := 4) (pg_name (i := 4) sc_numbers_by.nd rfl (by first | exact .inl rfl | exact .inr rfl))) pdgs_nil))))
  (pdss_cons (pds_if (pdt_val (pd_callD hr (D_is_rest.mono (by first | decide | omega)) (pda_cons (pd_var 0 (pv 0)) (pda_cons (pd_var 3 (pv 3)) pda_nil)))) (pdss_one (pds_ret (pd_lst pda_nil))) pdss_nil)
  (pdss_cons (pds_if (pdt_eq (pd_callD hr (D_owner_of.mono (by first | decide | omega)) (pda_cons (pd_var 0 (pv 0)) (pda_cons (pd_var 3 (pv 3)) pda_nil))) pd_str) (pdss_one (pds_ret (pd_lst (pda_cons (pd_callD hr (D_rule_move.mono (by first | decide | omega)) (pda_cons (pd_var 0 (pv 0)) (pda_cons (pd_var 1 (pv 1)) (pda_cons (pd_var 3 (pv 3)) (pda_cons (pd_var 4 (pv 4)) pda_nil))))) pda_nil)))) pdss_nil)
  (pdss_one (pds_ret (pd_listRg1 (bx := false) rfl T.b_list T.b_range (pd_len T.b_len (pda_cons (pd_callD hr (D_moves_of.mono (by first | decide | omega)) (pda_cons (pd_var 0 (pv 0)) (pda_cons (pd_var 3 (pv 3)) pda_nil))) pda_nil))))))))
abbrev N_lesser_of : List Str := ["one", "other", "left", "right"]
theorem sc_lesser_of : FnScope N_lesser_of ["one", "other"] (defScope (top 6)) := ⟨rfl, rfl, rfl, by decide +kernel, rfl, by decide +kernel, by decide +kernel⟩
theorem ok_lesser_of (T : Tx K mg)  : DefOk P w K mg base "lesser_of" 1 ["one", "other"] f_lesser_of := by
  obtain ⟨f, fd, F, hm⟩ := T.d_lesser_of
  refine ⟨f, fd, fnD (N := N_lesser_of) (c := c_lesser_of) (k := 0) F sc_lesser_of (fun cdv A outer s H E hr => ?_), hm, F.kp, F.bindsN fun _ _ _ _ _ _ us hl => match us, hl with | [_, _], _ => rfl, fdAt_of F⟩
  exact (pdss_one (pds_ret (pd_tuple T.b_tuple (pda_cons (pd_lc false (own := [("left", 2), ("right", 3)]) (ws := [2, 3]) (g := (gT 2 (gsCons (gN 2) (gsCons (gN 3) gsNil)))) (t := tYesD) (e := (cApp min2D (cCons (cVar 2) (cCons (cVar 3) cNil)))) rfl sc_lesser_of.nd (pdi_zip T.b_zip (pd_var 0 (pv 0)) (pd_var 1 (pv 1))) (blkOk_by (own := [("left", 2), ("right", 3)]) (N := N_lesser_of) (sc := defScope (top 6)) (by decide +kernel)) (by decide) (fun _ _ _ _ _ => (pdg_tup rfl (pdgs_cons (pdg_name (i := 2) (pg_name (i := 2) sc_lesser_of.nd rfl (by first | exact .inl rfl | exact .inr rfl))) (pdgs_cons (pdg_name (i := 3) (pg_name (i := 3) sc_lesser_of.nd rfl (by first | exact .inl rfl | exact .inr rfl))) pdgs_nil)))) (fun _ _ _ _ _ => pdts_nil) (fun _ _ _ _ _ => (pd_min rfl hr.units T.b_min (pda_cons (pd_var 2 (pv 2)) (pda_cons (pd_var 3 (pv 3)) pda_nil))))) pda_nil))))
abbrev N_rule_dries : List Str := ["book", "start", "levels", "sizes", "rule", "came", "order", "at", "place", "number", "word", "pours", "goal", "there", "behind"]
theorem sc_rule_dries : FnScope N_rule_dries ["book", "start", "levels", "sizes", "rule"] (defScope (top 20)) := ⟨rfl, rfl, rfl, by decide +kernel, rfl, by decide +kernel, by decide +kernel⟩
theorem ok_rule_dries (T : Tx K mg) (D_numbers_by : DefOk P w K mg base "numbers_by" 3 ["book", "rule", "place"] f_numbers_by) (D_lesser_of : DefOk P w K mg base "lesser_of" 1 ["one", "other"] f_lesser_of) (D_is_dry : DefOk P w K mg base "is_dry" 1 ["levels"] f_is_dry) (D_led_back : DefOk P w K mg base "led_back" 1 ["came", "place"] f_led_back) (D_poured : DefOk P w K mg base "poured" 1 ["levels", "pours"] f_poured) (D_moves_of : DefOk P w K mg base "moves_of" 1 ["book", "standing"] f_moves_of) : DefOk P w K mg base "rule_dries" 4 ["book", "start", "levels", "sizes", "rule"] f_rule_dries := by
  obtain ⟨f, fd, F, hm⟩ := T.d_rule_dries
  refine ⟨f, fd, fnD (N := N_rule_dries) (c := c_rule_dries) (k := 3) F sc_rule_dries (fun cdv A outer s H E hr => ?_), hm, F.kp, F.bindsN fun _ _ _ _ _ _ us hl => match us, hl with | [_, _, _, _, _], _ => rfl, fdAt_of F⟩
  exact (pdss_cons (pds_set (ps_set (i := 5) sc_rule_dries.nd rfl (by first | exact .inl rfl | exact .inr rfl) (pd_disp (nst := true) hr.units (pd_tup (pda_cons (pd_var 1 (pv 1)) (pda_cons (pd_var 2 (pv 2)) pda_nil))) pd_non)))
  (pdss_cons (pds_set (ps_set (i := 6) sc_rule_dries.nd rfl (by first | exact .inl rfl | exact .inr rfl) (pd_lstB (pda_cons (pd_tup (pda_cons (pd_var 1 (pv 1)) (pda_cons (pd_var 2 (pv 2)) pda_nil))) pda_nil))))
  (pdss_cons (pds_set (ps_set (i := 7) sc_rule_dries.nd rfl (by first | exact .inl rfl | exact .inr rfl) pd_int))
  (pdss_cons (pds_while PassesOwn.never (pdt_lt (pd_var 7 (pv 7)) (pd_len T.b_len (pda_cons (pd_var 6 (pv 6)) pda_nil))) (pdss_cons (pds_set (ps_set (i := 8) sc_rule_dries.nd rfl (by first | exact .inl rfl | exact .inr rfl) (pd_ix (pd_var 6 (pv 6)) (pd_var 7 (pv 7)))))
  (pdss_cons (pds_iadd (i := 7) sc_rule_dries.nd rfl (by first | exact .inl rfl | exact .inr rfl) pd_int)
  (pdss_one (pds_for PassesOwn.never rfl (pdi_seq (pd_callD hr (D_numbers_by.mono (by first | decide | omega)) (pda_cons (pd_var 0 (pv 0)) (pda_cons (pd_var 4 (pv 4)) (pda_cons (pd_var 8 (pv 8)) pda_nil))))) (pdg_name (i := 9) (pg_name (i := 9) sc_rule_dries.nd rfl (by first | exact .inl rfl | exact .inr rfl))) (pdss_cons (pds_asg (pd_ix (pd_callD hr (D_moves_of.mono (by first | decide | omega)) (pda_cons (pd_var 0 (pv 0)) (pda_cons (pd_ix (pd_var 8 (pv 8)) pd_int) pda_nil))) (pd_var 9 (pv 9))) (pdg_tup rfl (pdgs_cons (pdg_name (i := 10) (pg_name (i := 10) sc_rule_dries.nd rfl (by first | exact .inl rfl | exact .inr rfl))) (pdgs_cons (pdg_name (i := 11) (pg_name (i := 11) sc_rule_dries.nd rfl (by first | exact .inl rfl | exact .inr rfl))) (pdgs_cons (pdg_name (i := 12) (pg_name (i := 12) sc_rule_dries.nd rfl (by first | exact .inl rfl | exact .inr rfl))) pdgs_nil)))))
  (pdss_cons (pds_set (ps_set (i := 13) sc_rule_dries.nd rfl (by first | exact .inl rfl | exact .inr rfl) (pd_callD hr (D_poured.mono (by first | decide | omega)) (pda_cons (pd_ix (pd_var 8 (pv 8)) pd_int) (pda_cons (pd_var 11 (pv 11)) pda_nil)))))
  (pdss_cons (pds_if (pdt_val (pd_callD hr (D_is_dry.mono (by first | decide | omega)) (pda_cons (pd_var 13 (pv 13)) pda_nil))) (pdss_one (pds_ret (pd_add (pd_callD hr (D_led_back.mono (by first | decide | omega)) (pda_cons (pd_var 5 (pv 5)) (pda_cons (pd_var 8 (pv 8)) pda_nil))) (pd_tup (pda_cons (pd_var 9 (pv 9)) pda_nil))))) pdss_nil)
  (pdss_cons (pds_set (ps_set (i := 14) sc_rule_dries.nd rfl (by first | exact .inl rfl | exact .inr rfl) (pd_tup (pda_cons (pd_var 12 (pv 12)) (pda_cons (pd_callD hr (D_lesser_of.mono (by first | decide | omega)) (pda_cons (pd_var 13 (pv 13)) (pda_cons (pd_var 3 (pv 3)) pda_nil))) pda_nil)))))
  (pdss_one (pds_if (pdt_notIn hr.units (pd_var 14 (pv 14)) (pd_var 5 (pv 5))) (pdss_cons (pds_dput hr.units (pd_var 5 (pv 5)) (pd_var 14 (pv 14)) (pd_tup (pda_cons (pd_var 8 (pv 8)) (pda_cons (pd_var 9 (pv 9)) pda_nil))))
  (pdss_one (pds_expr (pd_append (pd_var 6 (pv 6)) (pda_cons (pd_var 14 (pv 14)) pda_nil))))) pdss_nil)))))))))))
  (pdss_one (pds_ret pd_non))))))
abbrev N_rule_keeps : List Str := ["book", "start", "levels", "sizes", "rule"]
theorem sc_rule_keeps : FnScope N_rule_keeps ["book", "start", "levels", "sizes", "rule"] (defScope (top 21)) := ⟨rfl, rfl, rfl, by decide +kernel, rfl, by decide +kernel, by decide +kernel⟩
theorem ok_rule_keeps (T : Tx K mg) (D_rule_dries : DefOk P w K mg base "rule_dries" 4 ["book", "start", "levels", "sizes", "rule"] f_rule_dries) : DefOk P w K mg base "rule_keeps" 5 ["book", "start", "levels", "sizes", "rule"] f_rule_keeps := by
  obtain ⟨f, fd, F, hm⟩ := T.d_rule_keeps
  refine ⟨f, fd, fnD (N := N_rule_keeps) (c := c_rule_keeps) (k := 4) F sc_rule_keeps (fun cdv A outer s H E hr => ?_), hm, F.kp, F.bindsN fun _ _ _ _ _ _ us hl => match us, hl with | [_, _, _, _, _], _ => rfl, fdAt_of F⟩
  exact (pdss_one (pds_ret (pd_isN (pd_callD hr (D_rule_dries.mono (by first | decide | omega)) (pda_cons (pd_var 0 (pv 0)) (pda_cons (pd_var 1 (pv 1)) (pda_cons (pd_var 2 (pv 2)) (pda_cons (pd_var 3 (pv 3)) (pda_cons (pd_var 4 (pv 4)) pda_nil)))))) pd_non)))
abbrev N__law_rules : List Str := ["spool", "book", "rule", "sizes", "lap", "start", "levels", "owner", "moves", "due", "told", "k", "size"]
theorem sc__law_rules : FnScope N__law_rules ["spool", "book"] (defScope (top 37)) := ⟨rfl, rfl, rfl, by decide +kernel, rfl, by decide +kernel, by decide +kernel⟩
theorem ok__law_rules (T : Tx K mg) (D__law_right : DefOk P w K mg base "_law_right" 5 ["book", "start", "levels", "order", "play", "many", "sizes"] f__law_right) (D_rule_dries : DefOk P w K mg base "rule_dries" 4 ["book", "start", "levels", "sizes", "rule"] f_rule_dries) (D_rule_keeps : DefOk P w K mg base "rule_keeps" 5 ["book", "start", "levels", "sizes", "rule"] f_rule_keeps) (D__law_alike : DefOk P w K mg base "_law_alike" 4 ["told", "due"] f__law_alike) (D__law_fewest : DefOk P w K mg base "_law_fewest" 5 ["book", "start", "levels", "order", "most", "sizes"] f__law_fewest) (D__law_ruled : DefOk P w K mg base "_law_ruled" 2 ["moves", "rule", "levels"] f__law_ruled) (D_rule_move : DefOk P w K mg base "rule_move" 2 ["book", "rule", "standing", "levels"] f_rule_move) (D__law_roll : DefOk P w K mg base "_law_roll" 1 ["spool", "many"] f__law_roll) (D__law_wont : DefOk P w K mg base "_law_wont" 2 ["spool", "place", "many"] f__law_wont) : DefOk P w K mg base "_law_rules" 6 ["spool", "book"] f__law_rules := by
  obtain ⟨f, fd, F, hm⟩ := T.d__law_rules
  refine ⟨f, fd, fnD (N := N__law_rules) (c := c__law_rules) (k := 5) F sc__law_rules (fun cdv A outer s H E hr => ?_), hm, F.kp, F.bindsN fun _ _ _ _ _ _ us hl => match us, hl with | [_, _], _ => rfl, fdAt_of F⟩
  exact (pdss_cons (pds_set (ps_set (i := 2) sc__law_rules.nd rfl (by first | exact .inl rfl | exact .inr rfl) (pd_ix (pd_tup (pda_cons pd_str (pda_cons pd_str (pda_cons pd_str pda_nil)))) (pd_callD hr (D__law_roll.mono (by first | decide | omega)) (pda_cons (pd_var 0 (pv 0)) (pda_cons pd_int pda_nil))))))
  (pdss_cons (pds_set (ps_set (i := 3) sc__law_rules.nd rfl (by first | exact .inl rfl | exact .inr rfl) (pd_tuple T.b_tuple (pda_cons (pd_lc false (own := [("k", 11)]) (ws := [11]) (g := (gN 11)) (t := tYesD) (e := (cApp (nD 3 f__law_wont) (cCons (cVar 0) (cCons (cC (.str "size")) (cCons (cIf (cB (cBin eqD (cBin ixD (cVar 1) (cC (.int 0))) (cC (.int 1)))) (cC (.int 7)) (cC (.int 4))) cNil))))) rfl sc__law_rules.nd (pdi_range1 T.b_range (pd_ix (pd_var 1 (pv 1)) pd_int)) (blkOk_by (own := [("k", 11)]) (N := N__law_rules) (sc := defScope (top 37)) (by decide +kernel)) (by decide) (fun _ _ _ _ _ => (pdg_name (i := 11) (pg_name (i := 11) sc__law_rules.nd rfl (by first | exact .inl rfl | exact .inr rfl)))) (fun _ _ _ _ _ => pdts_nil) (fun _ _ _ _ _ => (pd_callD hr (D__law_wont.mono (by first | decide | omega)) (pda_cons (pd_var 0 (pv 0)) (pda_cons pd_str (pda_cons (pd_if (pdt_eq (pd_ix (pd_var 1 (pv 1)) pd_int) pd_int) pd_int pd_int) pda_nil)))))) pda_nil))))
  (pdss_cons (pds_for PassesOwn.never rfl (pdi_range1 T.b_range pd_int) (pdg_name (i := 4) (pg_name (i := 4) sc__law_rules.nd rfl (by first | exact .inl rfl | exact .inr rfl))) (pdss_cons (pds_set (ps_set (i := 5) sc__law_rules.nd rfl (by first | exact .inl rfl | exact .inr rfl) (pd_callD hr (D__law_roll.mono (by first | decide | omega)) (pda_cons (pd_var 0 (pv 0)) (pda_cons (pd_len T.b_len (pda_cons (pd_ix (pd_var 1 (pv 1)) pd_int) pda_nil)) pda_nil)))))
  (pdss_cons (pds_set (ps_set (i := 6) sc__law_rules.nd rfl (by first | exact .inl rfl | exact .inr rfl) (pd_tuple T.b_tuple (pda_cons (pd_lc false (own := [("size", 12)]) (ws := [12]) (g := (gN 12)) (t := tYesD) (e := (cApp (nD 2 f__law_roll) (cCons (cVar 0) (cCons (cBin addD (cVar 12) (cC (.int 1))) cNil)))) rfl sc__law_rules.nd (pdi_seq (pd_var 3 (pv 3))) (blkOk_by (own := [("size", 12)]) (N := N__law_rules) (sc := defScope (top 37)) (by decide +kernel)) (by decide) (fun _ _ _ _ _ => (pdg_name (i := 12) (pg_name (i := 12) sc__law_rules.nd rfl (by first | exact .inl rfl | exact .inr rfl)))) (fun _ _ _ _ _ => pdts_nil) (fun _ _ _ _ _ => (pd_callD hr (D__law_roll.mono (by first | decide | omega)) (pda_cons (pd_var 0 (pv 0)) (pda_cons (pd_add (pd_var 12 (pv 12)) pd_int) pda_nil))))) pda_nil))))
  (pdss_cons (pds_asg (pd_ix (pd_ix (pd_var 1 (pv 1)) pd_int) (pd_var 5 (pv 5))) (pdg_tup rfl (pdgs_cons (pdg_name (i := 7) (pg_name (i := 7) sc__law_rules.nd rfl (by first | exact .inl rfl | exact .inr rfl))) (pdgs_cons (pdg_name (i := 8) (pg_name (i := 8) sc__law_rules.nd rfl (by first | exact .inl rfl | exact .inr rfl))) pdgs_nil))))
  (pdss_cons (pds_if (par_of (pdw_and (pdt_eq (pd_var 7 (pv 7)) pd_str) (pdw_and (pdt_gt (pd_len T.b_len (pda_cons (pd_var 8 (pv 8)) pda_nil)) pd_int) (pdw_and1 (pdt_not (pdt_val (pd_callD hr (D__law_alike.mono (by first | decide | omega)) (pda_cons (pd_callD hr (D_rule_move.mono (by first | decide | omega)) (pda_cons (pd_var 1 (pv 1)) (pda_cons (pd_var 2 (pv 2)) (pda_cons (pd_var 5 (pv 5)) (pda_cons (pd_var 6 (pv 6)) pda_nil))))) (pda_cons (pd_callD hr (D__law_ruled.mono (by first | decide | omega)) (pda_cons (pd_var 8 (pv 8)) (pda_cons (pd_var 2 (pv 2)) (pda_cons (pd_var 6 (pv 6)) pda_nil)))) pda_nil))))))))) (pdss_one (pds_ret pd_bl)) pdss_nil)
  (pdss_cons (pds_set (ps_set (i := 9) sc__law_rules.nd rfl (by first | exact .inl rfl | exact .inr rfl) (pd_callD hr (D__law_fewest.mono (by first | decide | omega)) (pda_cons (pd_var 1 (pv 1)) (pda_cons (pd_var 5 (pv 5)) (pda_cons (pd_var 6 (pv 6)) (pda_cons (pd_var 2 (pv 2)) (pda_cons pd_int (pda_cons (pd_var 3 (pv 3)) pda_nil)))))))))
  (pdss_cons (pds_if (pdt_not (pdt_val (pd_callD hr (D__law_alike.mono (by first | decide | omega)) (pda_cons (pd_callD hr (D_rule_keeps.mono (by first | decide | omega)) (pda_cons (pd_var 1 (pv 1)) (pda_cons (pd_var 5 (pv 5)) (pda_cons (pd_var 6 (pv 6)) (pda_cons (pd_var 3 (pv 3)) (pda_cons (pd_var 2 (pv 2)) pda_nil)))))) (pda_cons (pd_isN (pd_var 9 (pv 9)) pd_non) pda_nil))))) (pdss_one (pds_ret pd_bl)) pdss_nil)
  (pdss_cons (pds_set (ps_set (i := 10) sc__law_rules.nd rfl (by first | exact .inl rfl | exact .inr rfl) (pd_callD hr (D_rule_dries.mono (by first | decide | omega)) (pda_cons (pd_var 1 (pv 1)) (pda_cons (pd_var 5 (pv 5)) (pda_cons (pd_var 6 (pv 6)) (pda_cons (pd_var 3 (pv 3)) (pda_cons (pd_var 2 (pv 2)) pda_nil))))))))
  (pdss_one (pds_if (par_of (pdw_or (par_of (pdw_and (pdt_isN (pd_var 9 (pv 9)) pd_non) (pdw_and1 (pdt_notN (pd_var 10 (pv 10)) pd_non)))) (pdw_or1 (par_of (pdw_and (pdt_notN (pd_var 9 (pv 9)) pd_non) (pdw_and1 (pdt_not (pdt_val (pd_callD hr (D__law_right.mono (by first | decide | omega)) (pda_cons (pd_var 1 (pv 1)) (pda_cons (pd_var 5 (pv 5)) (pda_cons (pd_var 6 (pv 6)) (pda_cons (pd_var 2 (pv 2)) (pda_cons (pd_var 10 (pv 10)) (pda_cons (pd_var 9 (pv 9)) (pda_cons (pd_var 3 (pv 3)) pda_nil)))))))))))))))) (pdss_one (pds_ret pd_bl)) pdss_nil))))))))))
  (pdss_one (pds_ret pd_bl)))))
abbrev N__law_pump : List Str := ["spool", "draw", "fill", "flip", "book", "order", "level", "fewest", "levels", "sizes", "rule", "many"]
theorem sc__law_pump : FnScope N__law_pump ["spool"] (defScope (top 40)) := ⟨rfl, rfl, rfl, by decide +kernel, rfl, by decide +kernel, by decide +kernel⟩
theorem ok__law_pump (T : Tx K mg) (D_order_levels : DefOk P w K mg base "order_levels" 5 ["book", "start", "order", "many"] f_order_levels) (D__law_alike : DefOk P w K mg base "_law_alike" 4 ["told", "due"] f__law_alike) (D__law_roll : DefOk P w K mg base "_law_roll" 1 ["spool", "many"] f__law_roll) (D_rule_keeps : DefOk P w K mg base "rule_keeps" 5 ["book", "start", "levels", "sizes", "rule"] f_rule_keeps) (D_rule_dries : DefOk P w K mg base "rule_dries" 4 ["book", "start", "levels", "sizes", "rule"] f_rule_dries) (D_beaten_within : DefOk P w K mg base "beaten_within" 4 ["book", "start", "levels", "order", "most"] f_beaten_within) (D__law_right : DefOk P w K mg base "_law_right" 5 ["book", "start", "levels", "order", "play", "many", "sizes"] f__law_right) : DefOk P w K mg base "_law_pump" 6 ["spool"] f__law_pump := by
  obtain ⟨f, fd, F, hm⟩ := T.d__law_pump
  refine ⟨f, fd, fnD (N := N__law_pump) (c := c__law_pump) (k := 5) F sc__law_pump (fun cdv A outer s H E hr => ?_), hm, F.kp, F.bindsN fun _ _ _ _ _ _ us hl => match us, hl with | [_], _ => rfl, fdAt_of F⟩
  exact (pdss_cons (pds_set (ps_set (i := 1) sc__law_pump.nd rfl (by first | exact .inl rfl | exact .inr rfl) (pd_add pd_int (pd_callD hr (D__law_roll.mono (by first | decide | omega)) (pda_cons (pd_var 0 (pv 0)) (pda_cons pd_int pda_nil))))))
  (pdss_cons (pds_set (ps_set (i := 2) sc__law_pump.nd rfl (by first | exact .inl rfl | exact .inr rfl) (pd_add (pd_var 1 (pv 1)) (pd_callD hr (D__law_roll.mono (by first | decide | omega)) (pda_cons (pd_var 0 (pv 0)) (pda_cons pd_int pda_nil))))))
  (pdss_cons (pds_set (ps_set (i := 3) sc__law_pump.nd rfl (by first | exact .inl rfl | exact .inr rfl) (pd_callD hr (D__law_roll.mono (by first | decide | omega)) (pda_cons (pd_var 0 (pv 0)) (pda_cons pd_int pda_nil)))))
  (pdss_cons (pds_set (ps_set (i := 4) sc__law_pump.nd rfl (by first | exact .inl rfl | exact .inr rfl) (pd_tup (pda_cons pd_int (pda_cons (pd_tup (pda_cons (pd_tup (pda_cons pd_str (pda_cons (pd_tup (pda_cons (pd_tup (pda_cons pd_str (pda_cons (pd_tup (pda_cons (pd_sub pd_int (pd_var 1 (pv 1))) (pda_cons pd_int pda_nil))) (pda_cons pd_int pda_nil)))) (pda_cons (pd_tup (pda_cons pd_str (pda_cons (pd_tup (pda_cons pd_int (pda_cons (pd_sub pd_int (pd_var 1 (pv 1))) pda_nil))) (pda_cons pd_int pda_nil)))) pda_nil))) pda_nil))) (pda_cons (pd_tup (pda_cons pd_str (pda_cons (pd_tup (pda_cons (pd_tup (pda_cons pd_str (pda_cons (pd_tup (pda_cons (pd_var 2 (pv 2)) (pda_cons pd_int pda_nil))) (pda_cons pd_int pda_nil)))) (pda_cons (pd_tup (pda_cons pd_str (pda_cons (pd_tup (pda_cons pd_int (pda_cons (pd_var 2 (pv 2)) pda_nil))) (pda_cons pd_int pda_nil)))) pda_nil))) pda_nil))) pda_nil))) pda_nil)))))
  (pdss_cons (pds_set (ps_set (i := 5) sc__law_pump.nd rfl (by first | exact .inl rfl | exact .inr rfl) (pd_tup (pda_cons (pd_tup pda_nil) (pda_cons (pd_tup (pda_cons (pd_var 3 (pv 3)) (pda_cons (pd_sub pd_int (pd_var 3 (pv 3))) pda_nil))) pda_nil)))))
  (pdss_cons (pds_set (ps_set (i := 6) sc__law_pump.nd rfl (by first | exact .inl rfl | exact .inr rfl) (pd_add (pd_var 1 (pv 1)) (pd_callD hr (D__law_roll.mono (by first | decide | omega)) (pda_cons (pd_var 0 (pv 0)) (pda_cons (pd_mul pd_int (pd_var 1 (pv 1))) pda_nil))))))
  (pdss_cons (pds_set (ps_set (i := 7) sc__law_pump.nd rfl (by first | exact .inl rfl | exact .inr rfl) (pd_add (pd_mul pd_int (pd_fdiv (pd_var 6 (pv 6)) (pd_var 1 (pv 1)))) pd_int)))
  (pdss_cons (pds_set (ps_set (i := 8) sc__law_pump.nd rfl (by first | exact .inl rfl | exact .inr rfl) (pd_tup (pda_cons (pd_var 6 (pv 6)) (pda_cons (pd_var 6 (pv 6)) pda_nil)))))
  (pdss_cons (pds_if (pdt_not (pdt_val (pd_callD hr (D__law_right.mono (by first | decide | omega)) (pda_cons (pd_var 4 (pv 4)) (pda_cons pd_int (pda_cons (pd_var 8 (pv 8)) (pda_cons (pd_var 5 (pv 5)) (pda_cons (pd_callD hr (D_beaten_within.mono (by first | decide | omega)) (pda_cons (pd_var 4 (pv 4)) (pda_cons pd_int (pda_cons (pd_var 8 (pv 8)) (pda_cons (pd_var 5 (pv 5)) (pda_cons (pd_add (pd_var 7 (pv 7)) (pd_callD hr (D__law_roll.mono (by first | decide | omega)) (pda_cons (pd_var 0 (pv 0)) (pda_cons pd_int pda_nil)))) pda_nil)))))) (pda_cons (pd_var 7 (pv 7)) (pda_cons pd_non pda_nil)))))))))) (pdss_one (pds_ret pd_bl)) pdss_nil)
  (pdss_cons (pds_if (pdt_notN (pd_callD hr (D_beaten_within.mono (by first | decide | omega)) (pda_cons (pd_var 4 (pv 4)) (pda_cons pd_int (pda_cons (pd_var 8 (pv 8)) (pda_cons (pd_var 5 (pv 5)) (pda_cons (pd_sub (pd_var 7 (pv 7)) pd_int) pda_nil)))))) pd_non) (pdss_one (pds_ret pd_bl)) pdss_nil)
  (pdss_cons (pds_set (ps_set (i := 9) sc__law_pump.nd rfl (by first | exact .inl rfl | exact .inr rfl) (pd_tup (pda_cons (pd_add (pd_var 6 (pv 6)) (pd_var 2 (pv 2))) (pda_cons (pd_add (pd_var 6 (pv 6)) (pd_var 2 (pv 2))) pda_nil)))))
  (pdss_cons (pds_for PassesOwn.never rfl (pdi_seq (pd_tup (pda_cons pd_str (pda_cons pd_str (pda_cons pd_str pda_nil))))) (pdg_name (i := 10) (pg_name (i := 10) sc__law_pump.nd rfl (by first | exact .inl rfl | exact .inr rfl))) (pdss_one (pds_if (par_of (pdw_or (pdt_not (pdt_val (pd_callD hr (D__law_alike.mono (by first | decide | omega)) (pda_cons (pd_callD hr (D_rule_keeps.mono (by first | decide | omega)) (pda_cons (pd_var 4 (pv 4)) (pda_cons pd_int (pda_cons (pd_var 8 (pv 8)) (pda_cons (pd_var 9 (pv 9)) (pda_cons (pd_var 10 (pv 10)) pda_nil)))))) (pda_cons (pd_eq (pd_var 10 (pv 10)) pd_str) pda_nil))))) (pdw_or1 (pdt_ne (pd_isN (pd_callD hr (D_rule_dries.mono (by first | decide | omega)) (pda_cons (pd_var 4 (pv 4)) (pda_cons pd_int (pda_cons (pd_var 8 (pv 8)) (pda_cons (pd_var 9 (pv 9)) (pda_cons (pd_var 10 (pv 10)) pda_nil)))))) pd_non) (pd_eq (pd_var 10 (pv 10)) pd_str))))) (pdss_one (pds_ret pd_bl)) pdss_nil)))
  (pdss_cons (pds_set (ps_set (i := 11) sc__law_pump.nd rfl (by first | exact .inl rfl | exact .inr rfl) (pd_add pd_int (pd_callD hr (D__law_roll.mono (by first | decide | omega)) (pda_cons (pd_var 0 (pv 0)) (pda_cons pd_int pda_nil))))))
  (pdss_one (pds_ret (pd_callD hr (D__law_alike.mono (by first | decide | omega)) (pda_cons (pd_callD hr (D_order_levels.mono (by first | decide | omega)) (pda_cons (pd_var 4 (pv 4)) (pda_cons pd_int (pda_cons (pd_var 5 (pv 5)) (pda_cons (pd_var 11 (pv 11)) pda_nil))))) (pda_cons (pd_mul (pd_var 1 (pv 1)) (pd_fdiv (pd_add (pd_var 11 (pv 11)) pd_int) pd_int)) pda_nil))))))))))))))))))
abbrev N__law_thrift : List Str := ["spool", "dear", "book", "level", "order", "kept"]
theorem sc__law_thrift : FnScope N__law_thrift ["spool"] (defScope (top 41)) := ⟨rfl, rfl, rfl, by decide +kernel, rfl, by decide +kernel, by decide +kernel⟩
theorem ok__law_thrift (T : Tx K mg) (D_order_levels : DefOk P w K mg base "order_levels" 5 ["book", "start", "order", "many"] f_order_levels) (D__law_alike : DefOk P w K mg base "_law_alike" 4 ["told", "due"] f__law_alike) (D_beaten_within : DefOk P w K mg base "beaten_within" 4 ["book", "start", "levels", "order", "most"] f_beaten_within) (D__law_beaten : DefOk P w K mg base "_law_beaten" 6 ["book", "start", "levels", "order", "most"] f__law_beaten) (D__law_roll : DefOk P w K mg base "_law_roll" 1 ["spool", "many"] f__law_roll) (D__law_enough : DefOk P w K mg base "_law_enough" 6 ["book", "start", "order", "many", "top"] f__law_enough) : DefOk P w K mg base "_law_thrift" 7 ["spool"] f__law_thrift := by
  obtain ⟨f, fd, F, hm⟩ := T.d__law_thrift
  refine ⟨f, fd, fnD (N := N__law_thrift) (c := c__law_thrift) (k := 6) F sc__law_thrift (fun cdv A outer s H E hr => ?_), hm, F.kp, F.bindsN fun _ _ _ _ _ _ us hl => match us, hl with | [_], _ => rfl, fdAt_of F⟩
  exact (pdss_cons (pds_set (ps_set (i := 1) sc__law_thrift.nd rfl (by first | exact .inl rfl | exact .inr rfl) (pd_add pd_int (pd_callD hr (D__law_roll.mono (by first | decide | omega)) (pda_cons (pd_var 0 (pv 0)) (pda_cons pd_int pda_nil))))))
  (pdss_cons (pds_set (ps_set (i := 2) sc__law_thrift.nd rfl (by first | exact .inl rfl | exact .inr rfl) (pd_tup (pda_cons pd_int (pda_cons (pd_tup (pda_cons (pd_tup (pda_cons pd_str (pda_cons (pd_tup (pda_cons (pd_tup (pda_cons pd_str (pda_cons (pd_tup (pda_cons (pd_sub pd_int (pd_var 1 (pv 1))) pda_nil)) (pda_cons pd_int pda_nil)))) (pda_cons (pd_tup (pda_cons pd_str (pda_cons (pd_tup (pda_cons pd_int pda_nil)) (pda_cons pd_int pda_nil)))) pda_nil))) pda_nil))) (pda_cons (pd_tup (pda_cons pd_str (pda_cons (pd_tup (pda_cons (pd_tup (pda_cons pd_str (pda_cons (pd_tup (pda_cons (pd_neg pd_int) pda_nil)) (pda_cons pd_int pda_nil)))) (pda_cons (pd_tup (pda_cons pd_str (pda_cons (pd_tup (pda_cons pd_int pda_nil)) (pda_cons pd_int pda_nil)))) pda_nil))) pda_nil))) pda_nil))) pda_nil)))))
  (pdss_cons (pds_set (ps_set (i := 3) sc__law_thrift.nd rfl (by first | exact .inl rfl | exact .inr rfl) (pd_add pd_int (pd_callD hr (D__law_roll.mono (by first | decide | omega)) (pda_cons (pd_var 0 (pv 0)) (pda_cons pd_int pda_nil))))))
  (pdss_cons (pds_for PassesOwn.never rfl (pdi_seq (pd_tup (pda_cons (pd_tup (pda_cons (pd_tup (pda_cons pd_int (pda_cons pd_int pda_nil))) (pda_cons (pd_tup pda_nil) pda_nil))) (pda_cons (pd_tup (pda_cons (pd_tup (pda_cons pd_int (pda_cons pd_int pda_nil))) (pda_cons (pd_tup pda_nil) pda_nil))) pda_nil)))) (pdg_name (i := 4) (pg_name (i := 4) sc__law_thrift.nd rfl (by first | exact .inl rfl | exact .inr rfl))) (pdss_one (pds_if (par_of (pdw_or (pdt_not (pdt_val (pd_callD hr (D__law_beaten.mono (by first | decide | omega)) (pda_cons (pd_var 2 (pv 2)) (pda_cons pd_int (pda_cons (pd_tup (pda_cons (pd_var 3 (pv 3)) pda_nil)) (pda_cons (pd_var 4 (pv 4)) (pda_cons pd_int pda_nil)))))))) (pdw_or1 (pdt_not (pdt_val (pd_callD hr (D__law_enough.mono (by first | decide | omega)) (pda_cons (pd_var 2 (pv 2)) (pda_cons pd_int (pda_cons (pd_var 4 (pv 4)) (pda_cons (pd_callD hr (D__law_roll.mono (by first | decide | omega)) (pda_cons (pd_var 0 (pv 0)) (pda_cons pd_int pda_nil))) (pda_cons pd_int pda_nil))))))))))) (pdss_one (pds_ret pd_bl)) pdss_nil)))
  (pdss_cons (pds_set (ps_set (i := 5) sc__law_thrift.nd rfl (by first | exact .inl rfl | exact .inr rfl) (pd_callD hr (D_beaten_within.mono (by first | decide | omega)) (pda_cons (pd_var 2 (pv 2)) (pda_cons pd_int (pda_cons (pd_tup (pda_cons (pd_var 3 (pv 3)) pda_nil)) (pda_cons (pd_tup (pda_cons (pd_tup (pda_cons pd_int (pda_cons pd_int pda_nil))) (pda_cons (pd_tup pda_nil) pda_nil))) (pda_cons pd_int pda_nil))))))))
  (pdss_one (pds_ret (pd_and (pd_isN (pd_var 5 (pv 5)) pd_non) (pd_one (pd_callD hr (D__law_alike.mono (by first | decide | omega)) (pda_cons (pd_callD hr (D_order_levels.mono (by first | decide | omega)) (pda_cons (pd_var 2 (pv 2)) (pda_cons pd_int (pda_cons (pd_tup (pda_cons (pd_tup (pda_cons pd_int (pda_cons pd_int pda_nil))) (pda_cons (pd_tup pda_nil) pda_nil))) (pda_cons pd_int pda_nil))))) (pda_cons pd_int pda_nil))))))))))))
abbrev N__law_spool : List Str := ["script", "spool", "cell", "size", "great", "lap"]
theorem sc__law_spool : FnScope N__law_spool ["script"] (defScope (top 23)) := ⟨rfl, rfl, rfl, by decide +kernel, rfl, by decide +kernel, by decide +kernel⟩
theorem ok__law_spool (T : Tx K mg)  : DefOk P w K mg base "_law_spool" 1 ["script"] f__law_spool := by
  obtain ⟨f, fd, F, hm⟩ := T.d__law_spool
  refine ⟨f, fd, fnDK (N := N__law_spool) (c := c__law_spool) (k := 0) F sc__law_spool (fun cdv A outer s H E hr => ?_), hm, F.kp, F.bindsN fun _ _ _ _ _ _ us hl => match us, hl with | [_], _ => rfl, fdAt_of F⟩
  exact (pdss_cons (pds_set (ps_set (i := 1) sc__law_spool.nd rfl (by first | exact .inl rfl | exact .inr rfl) (pd_dispK (.cons pd_str (pd_lstB pda_nil) (.cons pd_str pd_int (.cons pd_str pd_int PPrs.nil))) (by simp) (by decide))))
  (pdss_cons (pds_for PassesOwn.never rfl (pdi_seq (pd_slice (bx := false) (pd_var 0 (pv 0)) pdo_none (pdo_some pd_int))) (pdg_name (i := 2) (pg_name (i := 2) sc__law_spool.nd rfl (by first | exact .inl rfl | exact .inr rfl))) (pdss_cons (pds_set (ps_set (i := 3) sc__law_spool.nd rfl (by first | exact .inl rfl | exact .inr rfl) (pd_abs T.b_abs (pda_cons (pd_int' T.b_int (pda_cons (pd_var 2 (pv 2)) pda_nil)) pda_nil))))
  (pdss_cons (pds_dput hr.units (pd_var 1 (pv 1)) pd_str (pd_mod (pd_int' T.b_int (pda_cons (pd_add (pd_add (pd_mul (pd_dget hr.units (pd_var 1 (pv 1)) pd_str (fun _ _ => rfl)) pd_int) (pd_mod (pd_int' T.b_int (pda_cons (pd_var 3 (pv 3)) pda_nil)) pd_int)) pd_int) pda_nil)) pd_int))
  (pdss_cons (pds_set (ps_set (i := 4) sc__law_spool.nd rfl (by first | exact .inl rfl | exact .inr rfl) (pd_ge (pd_var 3 (pv 3)) (pd_pow pd_int pd_int))))
  (pdss_one (pds_for PassesOwn.never rfl (pdi_range1 T.b_range pd_int) (pdg_name (i := 5) (pg_name (i := 5) sc__law_spool.nd rfl (by first | exact .inl rfl | exact .inr rfl))) (pdss_one (pds_if (par_of (pdw_and (pdt_tr (pd_var 4 (pv 4))) (pdw_and1 (pdt_gt (pd_var 3 (pv 3)) pd_int)))) (pdss_cons (pds_expr (pd_append (pd_dget hr.units (pd_var 1 (pv 1)) pd_str (fun _ _ => rfl)) (pda_cons (pd_mod (pd_int' T.b_int (pda_cons (pd_var 3 (pv 3)) pda_nil)) pd_int) pda_nil)))
  (pdss_one (pds_set (ps_set (i := 3) sc__law_spool.nd rfl (by first | exact .inl rfl | exact .inr rfl) (pd_fdiv (pd_var 3 (pv 3)) pd_int))))) pdss_nil))))))))
  (pdss_one (pds_ret (pd_var 1 (pv 1))))))
abbrev N_law : List Str := ["script", "spool", "lap", "tanks", "book"]
theorem sc_law : FnScope N_law ["script"] (defScope (top 43)) := ⟨rfl, rfl, rfl, by decide +kernel, rfl, by decide +kernel, by decide +kernel⟩
theorem ok_law (T : Tx K mg) (D__law_roll : DefOk P w K mg base "_law_roll" 1 ["spool", "many"] f__law_roll) (D__law_wide : DefOk P w K mg base "_law_wide" 7 ["spool"] f__law_wide) (D__law_asked : DefOk P w K mg base "_law_asked" 7 ["spool", "book", "most"] f__law_asked) (D__law_rules : DefOk P w K mg base "_law_rules" 6 ["spool", "book"] f__law_rules) (D__law_book : DefOk P w K mg base "_law_book" 3 ["spool", "tanks", "count", "widest", "most"] f__law_book) (D__law_pump : DefOk P w K mg base "_law_pump" 6 ["spool"] f__law_pump) (D__law_thrift : DefOk P w K mg base "_law_thrift" 7 ["spool"] f__law_thrift) (D__law_spool : DefOk P w K mg base "_law_spool" 1 ["script"] f__law_spool) : DefOk P w K mg base "law" 8 ["script"] f_law := by
  obtain ⟨f, fd, F, hm⟩ := T.d_law
  refine ⟨f, fd, fnD (N := N_law) (c := c_law) (k := 7) F sc_law (fun cdv A outer s H E hr => ?_), hm, F.kp, F.bindsN fun _ _ _ _ _ _ us hl => match us, hl with | [_], _ => rfl, fdAt_of F⟩
  exact (pdss_cons (pds_set (ps_set (i := 1) sc_law.nd rfl (by first | exact .inl rfl | exact .inr rfl) (pd_callD hr (D__law_spool.mono (by first | decide | omega)) (pda_cons (pd_var 0 (pv 0)) pda_nil))))
  (pdss_cons (pds_if (par_of (pdw_or (pdt_not (pdt_val (pd_callD hr (D__law_pump.mono (by first | decide | omega)) (pda_cons (pd_var 1 (pv 1)) pda_nil)))) (pdw_or1 (pdt_not (pdt_val (pd_callD hr (D__law_thrift.mono (by first | decide | omega)) (pda_cons (pd_var 1 (pv 1)) pda_nil))))))) (pdss_one (pds_ret pd_bl)) pdss_nil)
  (pdss_cons (pds_for PassesOwn.never rfl (pdi_range1 T.b_range pd_int) (pdg_name (i := 2) (pg_name (i := 2) sc_law.nd rfl (by first | exact .inl rfl | exact .inr rfl))) (pdss_cons (pds_set (ps_set (i := 3) sc_law.nd rfl (by first | exact .inl rfl | exact .inr rfl) (pd_add pd_int (pd_callD hr (D__law_roll.mono (by first | decide | omega)) (pda_cons (pd_var 1 (pv 1)) (pda_cons pd_int pda_nil))))))
  (pdss_cons (pds_set (ps_set (i := 4) sc_law.nd rfl (by first | exact .inl rfl | exact .inr rfl) (pd_callD hr (D__law_book.mono (by first | decide | omega)) (pda_cons (pd_var 1 (pv 1)) (pda_cons (pd_var 3 (pv 3)) (pda_cons (pd_add pd_int (pd_callD hr (D__law_roll.mono (by first | decide | omega)) (pda_cons (pd_var 1 (pv 1)) (pda_cons pd_int pda_nil)))) (pda_cons pd_int (pda_cons pd_int pda_nil))))))))
  (pdss_one (pds_if (par_of (pdw_or (pdt_not (pdt_val (pd_callD hr (D__law_asked.mono (by first | decide | omega)) (pda_cons (pd_var 1 (pv 1)) (pda_cons (pd_var 4 (pv 4)) (pda_cons (pd_if (pdt_eq (pd_var 3 (pv 3)) pd_int) pd_int pd_int) pda_nil)))))) (pdw_or1 (pdt_not (pdt_val (pd_callD hr (D__law_rules.mono (by first | decide | omega)) (pda_cons (pd_var 1 (pv 1)) (pda_cons (pd_var 4 (pv 4)) pda_nil)))))))) (pdss_one (pds_ret pd_bl)) pdss_nil)))))
  (pdss_one (pds_ret (pd_or (pd_ne (pd_callD hr (D__law_roll.mono (by first | decide | omega)) (pda_cons (pd_var 1 (pv 1)) (pda_cons pd_int pda_nil))) pd_int) (pd_one (pd_callD hr (D__law_wide.mono (by first | decide | omega)) (pda_cons (pd_var 1 (pv 1)) pda_nil)))))))))
theorem ok_all (T : Tx K mg) : DefOk P w K mg base "law" 8 ["script"] f_law := by
  have D__law_roll : DefOk P w K mg base "_law_roll" 1 ["spool", "many"] f__law_roll := ok__law_roll T 
  have D__law_poured : DefOk P w K mg base "_law_poured" 1 ["levels", "move"] f__law_poured := ok__law_poured T 
  have D__law_spilt : DefOk P w K mg base "_law_spilt" 1 ["levels", "sizes"] f__law_spilt := ok__law_spilt T 
  have D__law_ruled : DefOk P w K mg base "_law_ruled" 2 ["moves", "rule", "levels"] f__law_ruled := ok__law_ruled T D__law_poured
  have D__law_pick : DefOk P w K mg base "_law_pick" 3 ["book", "order", "place"] f__law_pick := ok__law_pick T D__law_poured D__law_ruled
  have D__law_turns : DefOk P w K mg base "_law_turns" 4 ["book", "order", "place"] f__law_turns := ok__law_turns T D__law_pick
  have D__law_right : DefOk P w K mg base "_law_right" 5 ["book", "start", "levels", "order", "play", "many", "sizes"] f__law_right := ok__law_right T D__law_poured D__law_spilt D__law_turns
  have D_is_rest : DefOk P w K mg base "is_rest" 1 ["book", "standing"] f_is_rest := ok_is_rest T 
  have D_moves_of : DefOk P w K mg base "moves_of" 1 ["book", "standing"] f_moves_of := ok_moves_of T 
  have D_poured : DefOk P w K mg base "poured" 1 ["levels", "pours"] f_poured := ok_poured T 
  have D_is_dry : DefOk P w K mg base "is_dry" 1 ["levels"] f_is_dry := ok_is_dry T 
  have D_ordered_move : DefOk P w K mg base "ordered_move" 2 ["book", "standing", "levels", "order"] f_ordered_move := ok_ordered_move T D_moves_of D_poured D_is_dry
  have D_owner_of : DefOk P w K mg base "owner_of" 1 ["book", "standing"] f_owner_of := ok_owner_of T 
  have D_numbers_at : DefOk P w K mg base "numbers_at" 3 ["book", "place", "order"] f_numbers_at := ok_numbers_at T D_is_rest D_ordered_move D_owner_of D_moves_of
  have D_led_back : DefOk P w K mg base "led_back" 1 ["came", "place"] f_led_back := ok_led_back T 
  have D_beaten_within : DefOk P w K mg base "beaten_within" 4 ["book", "start", "levels", "order", "most"] f_beaten_within := ok_beaten_within T D_numbers_at D_is_dry D_led_back D_poured D_moves_of
  have D__law_fewest : DefOk P w K mg base "_law_fewest" 5 ["book", "start", "levels", "order", "most", "sizes"] f__law_fewest := ok__law_fewest T D__law_turns D__law_poured D__law_spilt
  have D__law_beaten : DefOk P w K mg base "_law_beaten" 6 ["book", "start", "levels", "order", "most"] f__law_beaten := ok__law_beaten T D__law_right D_beaten_within D__law_fewest
  have D__law_wont : DefOk P w K mg base "_law_wont" 2 ["spool", "place", "many"] f__law_wont := ok__law_wont T D__law_roll
  have D__law_order : DefOk P w K mg base "_law_order" 3 ["spool", "book"] f__law_order := ok__law_order T D__law_wont D__law_roll
  have D__law_book : DefOk P w K mg base "_law_book" 3 ["spool", "tanks", "count", "widest", "most"] f__law_book := ok__law_book T D__law_roll D__law_wont
  have D_order_levels : DefOk P w K mg base "order_levels" 5 ["book", "start", "order", "many"] f_order_levels := ok_order_levels T D_beaten_within
  have D__law_alike : DefOk P w K mg base "_law_alike" 4 ["told", "due"] f__law_alike := ok__law_alike T 
  have D__law_wide : DefOk P w K mg base "_law_wide" 7 ["spool"] f__law_wide := ok__law_wide T D__law_roll D__law_beaten D__law_order D__law_book D_order_levels D__law_alike
  have D__law_enough : DefOk P w K mg base "_law_enough" 6 ["book", "start", "order", "many", "top"] f__law_enough := ok__law_enough T D_order_levels D__law_alike D__law_fewest
  have D__law_asked : DefOk P w K mg base "_law_asked" 7 ["spool", "book", "most"] f__law_asked := ok__law_asked T D__law_enough D__law_roll D__law_beaten D__law_fewest D__law_wont D__law_order
  have D_worth_by : DefOk P w K mg base "worth_by" 1 ["rule", "levels"] f_worth_by := ok_worth_by T 
  have D_rule_move : DefOk P w K mg base "rule_move" 2 ["book", "rule", "standing", "levels"] f_rule_move := ok_rule_move T D_moves_of D_is_dry D_worth_by D_poured
  have D_numbers_by : DefOk P w K mg base "numbers_by" 3 ["book", "rule", "place"] f_numbers_by := ok_numbers_by T D_moves_of D_owner_of D_rule_move D_is_rest
  have D_lesser_of : DefOk P w K mg base "lesser_of" 1 ["one", "other"] f_lesser_of := ok_lesser_of T 
  have D_rule_dries : DefOk P w K mg base "rule_dries" 4 ["book", "start", "levels", "sizes", "rule"] f_rule_dries := ok_rule_dries T D_numbers_by D_lesser_of D_is_dry D_led_back D_poured D_moves_of
  have D_rule_keeps : DefOk P w K mg base "rule_keeps" 5 ["book", "start", "levels", "sizes", "rule"] f_rule_keeps := ok_rule_keeps T D_rule_dries
  have D__law_rules : DefOk P w K mg base "_law_rules" 6 ["spool", "book"] f__law_rules := ok__law_rules T D__law_right D_rule_dries D_rule_keeps D__law_alike D__law_fewest D__law_ruled D_rule_move D__law_roll D__law_wont
  have D__law_pump : DefOk P w K mg base "_law_pump" 6 ["spool"] f__law_pump := ok__law_pump T D_order_levels D__law_alike D__law_roll D_rule_keeps D_rule_dries D_beaten_within D__law_right
  have D__law_thrift : DefOk P w K mg base "_law_thrift" 7 ["spool"] f__law_thrift := ok__law_thrift T D_order_levels D__law_alike D_beaten_within D__law_beaten D__law_roll D__law_enough
  have D__law_spool : DefOk P w K mg base "_law_spool" 1 ["script"] f__law_spool := ok__law_spool T 
  have D_law : DefOk P w K mg base "law" 8 ["script"] f_law := ok_law T D__law_roll D__law_wide D__law_asked D__law_rules D__law_book D__law_pump D__law_thrift D__law_spool
  exact D_law
end K84

namespace K84
open PySem PySem.Spec PyProof.Rows L2 DL
def h__law_roll : He.DefD := ⟨("_law_roll", none), "_law_roll", "_law_roll", defArgs (top 24), defBody (top 24), defScope (top 24), [], []⟩
def h__law_poured : He.DefD := ⟨("_law_poured", none), "_law_poured", "_law_poured", defArgs (top 29), defBody (top 29), defScope (top 29), [], []⟩
def h__law_spilt : He.DefD := ⟨("_law_spilt", none), "_law_spilt", "_law_spilt", defArgs (top 33), defBody (top 33), defScope (top 33), [], []⟩
def h__law_ruled : He.DefD := ⟨("_law_ruled", none), "_law_ruled", "_law_ruled", defArgs (top 30), defBody (top 30), defScope (top 30), [], []⟩
def h__law_pick : He.DefD := ⟨("_law_pick", none), "_law_pick", "_law_pick", defArgs (top 31), defBody (top 31), defScope (top 31), [], []⟩
def h__law_turns : He.DefD := ⟨("_law_turns", none), "_law_turns", "_law_turns", defArgs (top 32), defBody (top 32), defScope (top 32), [], []⟩
def h__law_right : He.DefD := ⟨("_law_right", none), "_law_right", "_law_right", defArgs (top 35), defBody (top 35), defScope (top 35), [], []⟩
def h_is_rest : He.DefD := ⟨("is_rest", none), "is_rest", "is_rest", defArgs (top 3), defBody (top 3), defScope (top 3), [], []⟩
def h_moves_of : He.DefD := ⟨("moves_of", none), "moves_of", "moves_of", defArgs (top 2), defBody (top 2), defScope (top 2), [], []⟩
def h_poured : He.DefD := ⟨("poured", none), "poured", "poured", defArgs (top 5), defBody (top 5), defScope (top 5), [], []⟩
def h_is_dry : He.DefD := ⟨("is_dry", none), "is_dry", "is_dry", defArgs (top 7), defBody (top 7), defScope (top 7), [], []⟩
def h_ordered_move : He.DefD := ⟨("ordered_move", none), "ordered_move", "ordered_move", defArgs (top 12), defBody (top 12), defScope (top 12), [], []⟩
def h_owner_of : He.DefD := ⟨("owner_of", none), "owner_of", "owner_of", defArgs (top 1), defBody (top 1), defScope (top 1), [], []⟩
def h_numbers_at : He.DefD := ⟨("numbers_at", none), "numbers_at", "numbers_at", defArgs (top 13), defBody (top 13), defScope (top 13), [], []⟩
def h_led_back : He.DefD := ⟨("led_back", none), "led_back", "led_back", defArgs (top 9), defBody (top 9), defScope (top 9), [], []⟩
def h_beaten_within : He.DefD := ⟨("beaten_within", none), "beaten_within", "beaten_within", defArgs (top 14), defBody (top 14), defScope (top 14), [], []⟩
def h__law_fewest : He.DefD := ⟨("_law_fewest", none), "_law_fewest", "_law_fewest", defArgs (top 34), defBody (top 34), defScope (top 34), [], []⟩
def h__law_beaten : He.DefD := ⟨("_law_beaten", none), "_law_beaten", "_law_beaten", defArgs (top 36), defBody (top 36), defScope (top 36), [], []⟩
def h__law_wont : He.DefD := ⟨("_law_wont", none), "_law_wont", "_law_wont", defArgs (top 25), defBody (top 25), defScope (top 25), [], []⟩
def h__law_order : He.DefD := ⟨("_law_order", none), "_law_order", "_law_order", defArgs (top 28), defBody (top 28), defScope (top 28), [], []⟩
def h__law_book : He.DefD := ⟨("_law_book", none), "_law_book", "_law_book", defArgs (top 27), defBody (top 27), defScope (top 27), [], []⟩
def h_order_levels : He.DefD := ⟨("order_levels", none), "order_levels", "order_levels", defArgs (top 15), defBody (top 15), defScope (top 15), [], []⟩
def h__law_alike : He.DefD := ⟨("_law_alike", none), "_law_alike", "_law_alike", defArgs (top 26), defBody (top 26), defScope (top 26), [], []⟩
def h__law_wide : He.DefD := ⟨("_law_wide", none), "_law_wide", "_law_wide", defArgs (top 42), defBody (top 42), defScope (top 42), [], []⟩
def h__law_enough : He.DefD := ⟨("_law_enough", none), "_law_enough", "_law_enough", defArgs (top 38), defBody (top 38), defScope (top 38), [], []⟩
def h__law_asked : He.DefD := ⟨("_law_asked", none), "_law_asked", "_law_asked", defArgs (top 39), defBody (top 39), defScope (top 39), [], []⟩
def h_worth_by : He.DefD := ⟨("worth_by", none), "worth_by", "worth_by", defArgs (top 17), defBody (top 17), defScope (top 17), [], []⟩
def h_rule_move : He.DefD := ⟨("rule_move", none), "rule_move", "rule_move", defArgs (top 18), defBody (top 18), defScope (top 18), [], []⟩
def h_numbers_by : He.DefD := ⟨("numbers_by", none), "numbers_by", "numbers_by", defArgs (top 19), defBody (top 19), defScope (top 19), [], []⟩
def h_lesser_of : He.DefD := ⟨("lesser_of", none), "lesser_of", "lesser_of", defArgs (top 6), defBody (top 6), defScope (top 6), [], []⟩
def h_rule_dries : He.DefD := ⟨("rule_dries", none), "rule_dries", "rule_dries", defArgs (top 20), defBody (top 20), defScope (top 20), [], []⟩
def h_rule_keeps : He.DefD := ⟨("rule_keeps", none), "rule_keeps", "rule_keeps", defArgs (top 21), defBody (top 21), defScope (top 21), [], []⟩
def h__law_rules : He.DefD := ⟨("_law_rules", none), "_law_rules", "_law_rules", defArgs (top 37), defBody (top 37), defScope (top 37), [], []⟩
def h__law_pump : He.DefD := ⟨("_law_pump", none), "_law_pump", "_law_pump", defArgs (top 40), defBody (top 40), defScope (top 40), [], []⟩
def h__law_thrift : He.DefD := ⟨("_law_thrift", none), "_law_thrift", "_law_thrift", defArgs (top 41), defBody (top 41), defScope (top 41), [], []⟩
def h__law_spool : He.DefD := ⟨("_law_spool", none), "_law_spool", "_law_spool", defArgs (top 23), defBody (top 23), defScope (top 23), [], []⟩
def h_law : He.DefD := ⟨("law", none), "law", "law", defArgs (top 43), defBody (top 43), defScope (top 43), [], []⟩
def hfn : List He.DefD := [h__law_roll, h__law_poured, h__law_spilt, h__law_ruled, h__law_pick, h__law_turns, h__law_right, h_is_rest, h_moves_of, h_poured, h_is_dry, h_ordered_move, h_owner_of, h_numbers_at, h_led_back, h_beaten_within, h__law_fewest, h__law_beaten, h__law_wont, h__law_order, h__law_book, h_order_levels, h__law_alike, h__law_wide, h__law_enough, h__law_asked, h_worth_by, h_rule_move, h_numbers_by, h_lesser_of, h_rule_dries, h_rule_keeps, h__law_rules, h__law_pump, h__law_thrift, h__law_spool, h_law]
def hfa : List He.Fa := [.glo "_law_roll", .glo "_law_poured", .glo "_law_spilt", .glo "_law_ruled", .glo "_law_pick", .glo "_law_turns", .glo "_law_right", .glo "is_rest", .glo "moves_of", .glo "poured", .glo "is_dry", .glo "ordered_move", .glo "owner_of", .glo "numbers_at", .glo "led_back", .glo "beaten_within", .glo "_law_fewest", .glo "_law_beaten", .glo "_law_wont", .glo "_law_order", .glo "_law_book", .glo "order_levels", .glo "_law_alike", .glo "_law_wide", .glo "_law_enough", .glo "_law_asked", .glo "worth_by", .glo "rule_move", .glo "numbers_by", .glo "lesser_of", .glo "rule_dries", .glo "rule_keeps", .glo "_law_rules", .glo "_law_pump", .glo "_law_thrift", .glo "_law_spool", .glo "law", .free "len", .free "range", .free "tuple", .free "zip", .free "any", .free "min", .free "isinstance", .free "int", .free "abs", .free "str", .free "enumerate", .free "bool", .free "list", .free "sum", .int "LEVELS_MOST" 60]
def hnames : List PySem.Str := (["owner_of", "moves_of", "is_rest", "poured", "lesser_of", "is_dry", "led_back", "LEVELS_MOST", "ordered_move", "numbers_at", "beaten_within", "order_levels", "worth_by", "rule_move", "numbers_by", "rule_dries", "rule_keeps", "_law_spool", "_law_roll", "_law_wont", "_law_alike", "_law_book", "_law_order", "_law_poured", "_law_ruled", "_law_pick", "_law_turns", "_law_spilt", "_law_fewest", "_law_right"] : List PySem.Str) ++ (["_law_beaten", "_law_rules", "_law_enough", "_law_asked", "_law_pump", "_law_thrift", "_law_wide"] : List PySem.Str)
abbrev hRow : PySem.W.OpenRow := PySem.W.OpenLaw.row PySem.Challenge.rw_nonerunsdry_k84_whole_orders
abbrev hk : PySem.W.Hook := He.hookD 4 hfa hfn
def ob (s : PySem.W.SharedT) : He.AlD := He.obsDG 4 hfa hfn (HandSHeadRun.getT s)
theorem ob_eq (s : PySem.W.SharedT) : ob s = hk.obs s.abs := He.obsDG_eq (HandSHeadRun.getT_eq s)
theorem run (w : World) : HandSHeadRun.RunEq hRow (PySem.W.view hRow.prog [43]) hk ob 3000 hnames w := by
  intro os
  kernel_rfl
theorem tx {K : PySem.W.Frag} {h : Heap} {mg : Str → Option Value} (X : K.In h) (G : h.Ns mainGlobals mg) (c : He.SaysD hfa hfn K) : Tx K mg where
  b_len := He.free_ok X G (c.fact 37 (f := .free "len") rfl)
  b_range := He.free_ok X G (c.fact 38 (f := .free "range") rfl)
  b_tuple := He.free_ok X G (c.fact 39 (f := .free "tuple") rfl)
  b_zip := He.free_ok X G (c.fact 40 (f := .free "zip") rfl)
  b_any := He.free_ok X G (c.fact 41 (f := .free "any") rfl)
  b_min := He.free_ok X G (c.fact 42 (f := .free "min") rfl)
  b_isinstance := He.free_ok X G (c.fact 43 (f := .free "isinstance") rfl)
  b_int := He.free_ok X G (c.fact 44 (f := .free "int") rfl)
  b_abs := He.free_ok X G (c.fact 45 (f := .free "abs") rfl)
  b_str := He.free_ok X G (c.fact 46 (f := .free "str") rfl)
  b_enumerate := He.free_ok X G (c.fact 47 (f := .free "enumerate") rfl)
  b_bool := He.free_ok X G (c.fact 48 (f := .free "bool") rfl)
  b_list := He.free_ok X G (c.fact 49 (f := .free "list") rfl)
  b_sum := He.free_ok X G (c.fact 50 (f := .free "sum") rfl)
  g_LEVELS_MOST := let ⟨t, e⟩ := He.int_ok X G (c.fact 51 (f := .int "LEVELS_MOST" 60) rfl); ⟨_, e, ⟨t, rfl⟩⟩
  d__law_roll := let ⟨fd, F⟩ := c.def_ 0 (d := h__law_roll) rfl; ⟨_, fd, F, He.glo_ok X G (c.fact 0 (f := .glo "_law_roll") rfl)⟩
  d__law_poured := let ⟨fd, F⟩ := c.def_ 1 (d := h__law_poured) rfl; ⟨_, fd, F, He.glo_ok X G (c.fact 1 (f := .glo "_law_poured") rfl)⟩
  d__law_spilt := let ⟨fd, F⟩ := c.def_ 2 (d := h__law_spilt) rfl; ⟨_, fd, F, He.glo_ok X G (c.fact 2 (f := .glo "_law_spilt") rfl)⟩
  d__law_ruled := let ⟨fd, F⟩ := c.def_ 3 (d := h__law_ruled) rfl; ⟨_, fd, F, He.glo_ok X G (c.fact 3 (f := .glo "_law_ruled") rfl)⟩
  d__law_pick := let ⟨fd, F⟩ := c.def_ 4 (d := h__law_pick) rfl; ⟨_, fd, F, He.glo_ok X G (c.fact 4 (f := .glo "_law_pick") rfl)⟩
  d__law_turns := let ⟨fd, F⟩ := c.def_ 5 (d := h__law_turns) rfl; ⟨_, fd, F, He.glo_ok X G (c.fact 5 (f := .glo "_law_turns") rfl)⟩
  d__law_right := let ⟨fd, F⟩ := c.def_ 6 (d := h__law_right) rfl; ⟨_, fd, F, He.glo_ok X G (c.fact 6 (f := .glo "_law_right") rfl)⟩
  d_is_rest := let ⟨fd, F⟩ := c.def_ 7 (d := h_is_rest) rfl; ⟨_, fd, F, He.glo_ok X G (c.fact 7 (f := .glo "is_rest") rfl)⟩
  d_moves_of := let ⟨fd, F⟩ := c.def_ 8 (d := h_moves_of) rfl; ⟨_, fd, F, He.glo_ok X G (c.fact 8 (f := .glo "moves_of") rfl)⟩
  d_poured := let ⟨fd, F⟩ := c.def_ 9 (d := h_poured) rfl; ⟨_, fd, F, He.glo_ok X G (c.fact 9 (f := .glo "poured") rfl)⟩
  d_is_dry := let ⟨fd, F⟩ := c.def_ 10 (d := h_is_dry) rfl; ⟨_, fd, F, He.glo_ok X G (c.fact 10 (f := .glo "is_dry") rfl)⟩
  d_ordered_move := let ⟨fd, F⟩ := c.def_ 11 (d := h_ordered_move) rfl; ⟨_, fd, F, He.glo_ok X G (c.fact 11 (f := .glo "ordered_move") rfl)⟩
  d_owner_of := let ⟨fd, F⟩ := c.def_ 12 (d := h_owner_of) rfl; ⟨_, fd, F, He.glo_ok X G (c.fact 12 (f := .glo "owner_of") rfl)⟩
  d_numbers_at := let ⟨fd, F⟩ := c.def_ 13 (d := h_numbers_at) rfl; ⟨_, fd, F, He.glo_ok X G (c.fact 13 (f := .glo "numbers_at") rfl)⟩
  d_led_back := let ⟨fd, F⟩ := c.def_ 14 (d := h_led_back) rfl; ⟨_, fd, F, He.glo_ok X G (c.fact 14 (f := .glo "led_back") rfl)⟩
  d_beaten_within := let ⟨fd, F⟩ := c.def_ 15 (d := h_beaten_within) rfl; ⟨_, fd, F, He.glo_ok X G (c.fact 15 (f := .glo "beaten_within") rfl)⟩
  d__law_fewest := let ⟨fd, F⟩ := c.def_ 16 (d := h__law_fewest) rfl; ⟨_, fd, F, He.glo_ok X G (c.fact 16 (f := .glo "_law_fewest") rfl)⟩
  d__law_beaten := let ⟨fd, F⟩ := c.def_ 17 (d := h__law_beaten) rfl; ⟨_, fd, F, He.glo_ok X G (c.fact 17 (f := .glo "_law_beaten") rfl)⟩
  d__law_wont := let ⟨fd, F⟩ := c.def_ 18 (d := h__law_wont) rfl; ⟨_, fd, F, He.glo_ok X G (c.fact 18 (f := .glo "_law_wont") rfl)⟩
  d__law_order := let ⟨fd, F⟩ := c.def_ 19 (d := h__law_order) rfl; ⟨_, fd, F, He.glo_ok X G (c.fact 19 (f := .glo "_law_order") rfl)⟩
  d__law_book := let ⟨fd, F⟩ := c.def_ 20 (d := h__law_book) rfl; ⟨_, fd, F, He.glo_ok X G (c.fact 20 (f := .glo "_law_book") rfl)⟩
  d_order_levels := let ⟨fd, F⟩ := c.def_ 21 (d := h_order_levels) rfl; ⟨_, fd, F, He.glo_ok X G (c.fact 21 (f := .glo "order_levels") rfl)⟩
  d__law_alike := let ⟨fd, F⟩ := c.def_ 22 (d := h__law_alike) rfl; ⟨_, fd, F, He.glo_ok X G (c.fact 22 (f := .glo "_law_alike") rfl)⟩
  d__law_wide := let ⟨fd, F⟩ := c.def_ 23 (d := h__law_wide) rfl; ⟨_, fd, F, He.glo_ok X G (c.fact 23 (f := .glo "_law_wide") rfl)⟩
  d__law_enough := let ⟨fd, F⟩ := c.def_ 24 (d := h__law_enough) rfl; ⟨_, fd, F, He.glo_ok X G (c.fact 24 (f := .glo "_law_enough") rfl)⟩
  d__law_asked := let ⟨fd, F⟩ := c.def_ 25 (d := h__law_asked) rfl; ⟨_, fd, F, He.glo_ok X G (c.fact 25 (f := .glo "_law_asked") rfl)⟩
  d_worth_by := let ⟨fd, F⟩ := c.def_ 26 (d := h_worth_by) rfl; ⟨_, fd, F, He.glo_ok X G (c.fact 26 (f := .glo "worth_by") rfl)⟩
  d_rule_move := let ⟨fd, F⟩ := c.def_ 27 (d := h_rule_move) rfl; ⟨_, fd, F, He.glo_ok X G (c.fact 27 (f := .glo "rule_move") rfl)⟩
  d_numbers_by := let ⟨fd, F⟩ := c.def_ 28 (d := h_numbers_by) rfl; ⟨_, fd, F, He.glo_ok X G (c.fact 28 (f := .glo "numbers_by") rfl)⟩
  d_lesser_of := let ⟨fd, F⟩ := c.def_ 29 (d := h_lesser_of) rfl; ⟨_, fd, F, He.glo_ok X G (c.fact 29 (f := .glo "lesser_of") rfl)⟩
  d_rule_dries := let ⟨fd, F⟩ := c.def_ 30 (d := h_rule_dries) rfl; ⟨_, fd, F, He.glo_ok X G (c.fact 30 (f := .glo "rule_dries") rfl)⟩
  d_rule_keeps := let ⟨fd, F⟩ := c.def_ 31 (d := h_rule_keeps) rfl; ⟨_, fd, F, He.glo_ok X G (c.fact 31 (f := .glo "rule_keeps") rfl)⟩
  d__law_rules := let ⟨fd, F⟩ := c.def_ 32 (d := h__law_rules) rfl; ⟨_, fd, F, He.glo_ok X G (c.fact 32 (f := .glo "_law_rules") rfl)⟩
  d__law_pump := let ⟨fd, F⟩ := c.def_ 33 (d := h__law_pump) rfl; ⟨_, fd, F, He.glo_ok X G (c.fact 33 (f := .glo "_law_pump") rfl)⟩
  d__law_thrift := let ⟨fd, F⟩ := c.def_ 34 (d := h__law_thrift) rfl; ⟨_, fd, F, He.glo_ok X G (c.fact 34 (f := .glo "_law_thrift") rfl)⟩
  d__law_spool := let ⟨fd, F⟩ := c.def_ 35 (d := h__law_spool) rfl; ⟨_, fd, F, He.glo_ok X G (c.fact 35 (f := .glo "_law_spool") rfl)⟩
  d_law := let ⟨fd, F⟩ := c.def_ 36 (d := h_law) rfl; ⟨_, fd, F, He.glo_ok X G (c.fact 36 (f := .glo "law") rfl)⟩
theorem law_is {P : Program} {w : World} {K : PySem.W.Frag} {h : Heap} {mg : Str → Option Value} {f : Addr} (X : K.In h) (G : h.Ns mainGlobals mg) (hfa' : mg ("law" : Str) = some (.ref f)) (c : He.SaysD hfa hfn K) :
    ∃ fd : FuncData, (∀ (s : Shared) (v : Value), BindsTo s fd ⟨[v], []⟩ [("script", v)]) ∧ ∀ base : Heap, K.In base → base.Ns mainGlobals mg → FnOk P w K mg base CX0 20 f fd ["script"] (spD P w K 1 f_law) := by
  have T := tx X G c
  have D0 : ∀ base : Heap, DefOk P w K mg base "law" 8 ["script"] f_law := fun base => ok_all T
  obtain ⟨f0, fd, F, hm⟩ := T.d_law
  cases hfa'.symm.trans hm
  refine ⟨fd, fun s v => F.bindsA (ps := ["script"]) (fun _ _ _ _ _ _ us hl => match us, hl with | [_], _ => rfl) s [v] rfl, fun base _ _ => ?_⟩
  obtain ⟨f1, fd1, h1, h2, _, _, h3⟩ := D0 base
  cases hfa'.symm.trans h2
  have e : fd = fd1 := (fdAt_of F).eq h3
  rw [e]
  exact FnOk.mono h1 (by decide)
end K84

open PySem PySem.W PySem.Calls PyProof.Rows
theorem PySem.Challenge.cw_nonerunsdry_k84_whole_orders_holds : PySem.Challenge.rw_nonerunsdry_k84_whole_orders.Holds := by
  w_on; o_law
  refine HandSHeadRun.head_any (r := OpenLaw.row PySem.Challenge.rw_nonerunsdry_k84_whole_orders) (q := view (OpenLaw.row PySem.Challenge.rw_nonerunsdry_k84_whole_orders).prog [43]) (H := K84.hk) (ob := K84.ob) (M := 3000) (loose := K84.hnames) (d := HandSHeadRun.topDef (OpenLaw.row PySem.Challenge.rw_nonerunsdry_k84_whole_orders).prog 43) (kwd := []) K84.ob_eq
    (by kernel_rfl) (fun s => by kernel_rfl) K84.run (by kernel_rfl) (by kernel_rfl) (by kernel_rfl) (by rfl) (by first | assumption | decide +kernel) (by decide +kernel) ⟨rfl, rfl, rfl, rfl, rfl, by decide +kernel⟩ ?hw ?hc
  case hw => w_witness2
  case hc =>
    refine L2.walk_ofE (l := PySem.Challenge.rw_nonerunsdry_k84_whole_orders) (n := 63) (k := 20) (x := "script") (CX := L2.CX0) rfl (by decide) (by kernel_rfl) ⟨rfl, by decide, by decide⟩ ?F (fun _ _ _ _ z => z)
    intro w mg fa h Y G hmg0
    obtain ⟨K, KX, c⟩ := Y
    have hmg : mg ("law" : PySem.Str) = some (.ref fa) := by
      have e : (HandSHeadRun.topDef (OpenLaw.row PySem.Challenge.rw_nonerunsdry_k84_whole_orders).prog 43).name = ("law" : PySem.Str) := by kernel_rfl
      rw [← e]
      exact hmg0
    obtain ⟨fd, hb, hF⟩ := K84.law_is (P := (PySem.Challenge.rw_nonerunsdry_k84_whole_orders).prog) (w := w) KX G hmg c
    exact ⟨K, fd, DL.spD (PySem.Challenge.rw_nonerunsdry_k84_whole_orders).prog w K 1 K84.f_law, KX, hb, fun H a ns hl hO hS => DL.law_start K84.plain H a ns hl hO hS, hF⟩
