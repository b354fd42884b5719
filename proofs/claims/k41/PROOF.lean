import PyProof.Rows.All
import HandS.Wide
import Wide.All
import OpenK.AllK
import Wide.FinOn
import HandS.ForMost
import HandS.TupAny
import HandS.TupLe
import HandS.IsInst
import HandS.Zip
import HandS.NoneIn
import HandS.SetFor
import HandS.SetTxt0
import HandS.Strs
import PyProof.Rows.SortShellAny
import KE.GoesMore
import KE.GoesEnum
import KE.GoesZip
import PyProof.EnumMake
import KE.SortData
import HandS.Conv
import HandS.More
import KE.KDictDisplayH
import HandS.Style
import HandS.TupMul
import HandS.RaiseMore
import HandS.Text
import HandS.WordsExc
import HandS.CallSlots
import HandS.ExcIs
import HandS.TryOnly
import HandS.ExcField
import KE.KExcIs
import HandS.ExcInit
import HandS.Flow
import HandS.ReplaceLit
import KE.KRevSl
import HandS.Deep
import PyProof.P3In
import KE.KDictPairs
import HandS.SetKeys
import HandS.TupLen
import KE.DatumOrd
import PyProof.Rows.RowBridgeK
import HandS.ExcValue
import KE.KDictZip
import HandS.RevTup
import PyProof.TupleOfGen
import PySem.Challenge.RW_wipeways_k41_too_long_in_place
set_option Elab.async false
set_option linter.all false
set_option maxRecDepth 100000
set_option maxHeartbeats 4000000
namespace Dn
open PySem PySem.Spec PyProof.Rows L2
abbrev D := PyData
abbrev Frag := PySem.W.Frag
def Ex (H H' : Hp) : Prop := ∀ a o, H a = some o → H' a = some o
theorem Ex.refl (H : Hp) : Ex H H := fun _ _ h => h
theorem Ex.trans {H H1 H2 : Hp} (a : Ex H H1) (b : Ex H1 H2) : Ex H H2 := fun x o h => b x o (a x o h)
theorem ex_new {H : Hp} {p : Addr} {o : HO} (h : H p = none) : Ex H (upd H p o) := fun a u e => by
  by_cases hap : a = p
  · subst hap; rw [h] at e; cases e
  · rw [upd_ne hap]; exact e
theorem rd_ex {H H' : Hp} {a : Addr} {u : HO} (e : Ex H H') (h : Rd H a u) : Rd H' a u := by
  rcases h with h | ⟨o, h⟩
  · exact .inl (e a _ h)
  · exact .inr ⟨o, e a _ h⟩
/-- a tuple that is read: tracked as it is, or one of the module -/
def StT (K : Frag) (H : Hp) (a : Addr) (xs : List V) : Prop :=
  H a = some (.tup xs) ∨ ∃ (o : Obj) (its : Array Value) (n : Nat), K.lookup a = some o ∧ o.cls = .type "tuple" ∧ o.data = .seq its n ∧ its.size ≤ sizeLine ∧ Vals xs its.toList
theorem StT.sq {K : Frag} {H : Hp} {a : Addr} {xs : List V} (h : StT K H a xs) : SqT K H a xs := by
  rcases h with h | h
  · exact .inl (.inl h)
  · exact .inr h
theorem StT.of {K : Frag} {H : Hp} {a : Addr} {xs : List V} (h : H a = some (.tup xs)) : StT K H a xs := .inl h
theorem StT.ex {K : Frag} {H H' : Hp} {a : Addr} {xs : List V} (e : Ex H H') (h : StT K H a xs) : StT K H' a xs := by
  rcases h with h | h
  · exact .inl (e _ _ h)
  · exact .inr h
theorem sqT_ex {K : Frag} {H H' : Hp} {a : Addr} {xs : List V} (e : Ex H H') (h : StT K H a xs) : SqT K H' a xs := (h.ex e).sq
theorem sqL_ex {K : Frag} {H H' : Hp} {a : Addr} {xs : List V} (e : Ex H H') (h : SqL K H a xs) : SqL K H' a xs := by
  rcases h with h | h
  · exact .inl (rd_ex e h)
  · exact .inr h
mutual
inductive Rp (K : Frag) (H : Hp) : V → D → Prop where
  | non : Rp K H .non .none
  | bl (b : Bool) : Rp K H (.bl b) (.bool b)
  | int (i : Int) : Rp K H (.int i) (.int i)
  | str (x : Str) : Rp K H (.str x) (.str x)
  | lst {a : Addr} {xs : List V} {ds : List D} : SqL K H a xs → Rps K H xs ds → Rp K H (.ref a) (.list ds)
  | tup {a : Addr} {xs : List V} {ds : List D} : StT K H a xs → Rps K H xs ds → Rp K H (.ref a) (.tuple ds)
inductive Rps (K : Frag) (H : Hp) : List V → List D → Prop where
  | nil : Rps K H [] []
  | cons {v : V} {vs : List V} {d : D} {ds : List D} : Rp K H v d → Rps K H vs ds → Rps K H (v :: vs) (d :: ds)
end
section
variable {K : Frag} {H H' : Hp}
mutual
theorem Rp.ex (e : Ex H H') : ∀ {v : V} {d : D}, Rp K H v d → Rp K H' v d
  | _, _, .non => .non
  | _, _, .bl b => .bl b
  | _, _, .int i => .int i
  | _, _, .str x => .str x
  | _, _, .lst h t => .lst (sqL_ex e h) (Rps.ex e t)
  | _, _, .tup h t => .tup (h.ex e) (Rps.ex e t)
theorem Rps.ex (e : Ex H H') : ∀ {vs : List V} {ds : List D}, Rps K H vs ds → Rps K H' vs ds
  | _, _, .nil => .nil
  | _, _, .cons h t => .cons (Rp.ex e h) (Rps.ex e t)
end
mutual
theorem Rp.dp : ∀ {v : V} {d : D}, Rp K H v d → Dp K H v d
  | _, _, .non => .non
  | _, _, .bl b => .bl b
  | _, _, .int i => .int i
  | _, _, .str x => .str x
  | _, _, .lst h t => .lst h (Rps.dp t)
  | _, _, .tup h t => .tup h.sq (Rps.dp t)
theorem Rps.dp : ∀ {vs : List V} {ds : List D}, Rps K H vs ds → DpAll K H vs ds
  | _, _, .nil => .nil
  | _, _, .cons h t => .cons (Rp.dp h) (Rps.dp t)
end
theorem Rps.length : ∀ {vs : List V} {ds : List D}, Rps K H vs ds → vs.length = ds.length
  | _, _, .nil => rfl
  | _, _, .cons _ t => by rw [List.length_cons, List.length_cons, Rps.length t]
theorem Rps.get : ∀ {vs : List V} {ds : List D} {i : Nat} {d : D}, Rps K H vs ds → ds[i]? = some d → ∃ v, vs[i]? = some v ∧ Rp K H v d
  | _, _, i, d, .nil, e => by simp at e
  | _, _, 0, d, .cons h _, e => by simp at e; subst e; exact ⟨_, rfl, h⟩
  | _, _, i + 1, d, .cons _ t, e => by
    obtain ⟨v, h1, h2⟩ := Rps.get (i := i) t (by simpa using e)
    exact ⟨v, by simpa using h1, h2⟩
theorem Rps.append : ∀ {vs ws : List V} {ds es : List D}, Rps K H vs ds → Rps K H ws es → Rps K H (vs ++ ws) (ds ++ es)
  | _, _, _, _, .nil, s => s
  | _, _, _, _, .cons h t, s => .cons h (Rps.append t s)
theorem Rps.snoc {vs : List V} {ds : List D} {v : V} {d : D} (h : Rps K H vs ds) (r : Rp K H v d) : Rps K H (vs ++ [v]) (ds ++ [d]) := h.append (.cons r .nil)
theorem Rps.take : ∀ {vs : List V} {ds : List D} (n : Nat), Rps K H vs ds → Rps K H (vs.take n) (ds.take n)
  | _, _, 0, _ => .nil
  | _, _, _ + 1, .nil => .nil
  | _, _, n + 1, .cons h t => .cons h (Rps.take n t)
theorem Rps.drop : ∀ {vs : List V} {ds : List D} (n : Nat), Rps K H vs ds → Rps K H (vs.drop n) (ds.drop n)
  | _, _, 0, h => h
  | _, _, _ + 1, .nil => .nil
  | _, _, n + 1, .cons _ t => Rps.drop n t
theorem Rps.set {v : V} {d : D} (r : Rp K H v d) : ∀ {vs : List V} {ds : List D} (i : Nat), Rps K H vs ds → Rps K H (vs.set i v) (ds.set i d)
  | _, _, _, .nil => .nil
  | _, _, 0, .cons _ t => .cons r t
  | _, _, i + 1, .cons h t => .cons h (Rps.set r i t)
theorem Rps.erase : ∀ {vs : List V} {ds : List D} (i : Nat), Rps K H vs ds → Rps K H (vs.eraseIdx i) (ds.eraseIdx i)
  | _, _, _, .nil => .nil
  | _, _, 0, .cons _ t => t
  | _, _, i + 1, .cons h t => .cons h (Rps.erase i t)
theorem Rps.ints : ∀ {vs : List V} {ns : List Int}, Rps K H vs (ns.map PyData.int) → vs = ns.map V.int
  | _, [], .nil => rfl
  | _, n :: ns, .cons h t => by
    cases h
    rw [List.map_cons, Rps.ints t]
theorem Rps.of_ints : ∀ (ns : List Int), Rps K H (ns.map V.int) (ns.map PyData.int)
  | [] => .nil
  | n :: ns => .cons (.int n) (Rps.of_ints ns)
theorem Rps.strs : ∀ {vs : List V} {ns : List Str}, Rps K H vs (ns.map PyData.str) → vs = ns.map V.str
  | _, [], .nil => rfl
  | _, n :: ns, .cons h t => by
    cases h
    rw [List.map_cons, Rps.strs t]
theorem Rps.of_strs : ∀ (ns : List Str), Rps K H (ns.map V.str) (ns.map PyData.str)
  | [] => .nil
  | n :: ns => .cons (.str n) (Rps.of_strs ns)
theorem Rps.bls : ∀ {vs : List V} {ns : List Bool}, Rps K H vs (ns.map PyData.bool) → vs = ns.map V.bl
  | _, [], .nil => rfl
  | _, n :: ns, .cons h t => by
    cases h
    rw [List.map_cons, Rps.bls t]
end
inductive Sl where
  | no
  | sh (d : D)
  | ow (xs : List D)
abbrev Env := List Sl
def Sl.own : Sl → Bool
  | .ow _ => true
  | _ => false
structure Exn where
  cls : Str
  num : Option Int
inductive Res (α : Type) where
  | ok (a : α) (e : Env)
  | exc (x : Exn) (e : Env)
  | bad
abbrev M (α : Type) := Env → Res α
def mPure {α : Type} (a : α) : M α := fun e => .ok a e
def mBind {α β : Type} (m : M α) (f : α → M β) : M β := fun e => match m e with
  | .ok a e' => f a e'
  | .exc x e' => .exc x e'
  | .bad => .bad
def mOpt {α : Type} (o : Option α) : M α := fun e => match o with
  | some a => .ok a e
  | none => .bad
def OwR (K : Frag) (Hs : Hp) : Sl → HO → Prop
  | .ow xs, .lst vs => Rps K Hs vs xs
  | _, _ => False
theorem OwR.ex {K : Frag} {H H' : Hp} (e : Ex H H') : ∀ {s : Sl} {o : HO}, OwR K H s o → OwR K H' s o := fun {s o} h => by
  cases s with
  | ow xs =>
    cases o with
    | lst vs => exact Rps.ex e h
    | _ => exact h
  | _ => exact h
/-- pn: the slots that hold a caller's own lists (they stay); G: what others hold -/
structure Wd where
  pn : List (Nat × V)
  G : Hp
structure RE (K : Frag) (W : Wd) (Hs H : Hp) (σ : L2.St) (δ : Env) : Prop where
  ex : Ex Hs H
  fg : ∀ a o, W.G a = some o → H a = some o ∧ Hs a = none
  len : σ.length = δ.length
  sh : ∀ (i : Nat) (d : D), δ[i]? = some (Sl.sh d) → ∃ v : V, σ[i]? = some (some v) ∧ Rp K Hs v d
  ow : ∀ (i : Nat) (s : Sl), δ[i]? = some s → s.own = true → ∃ (a : Addr) (o : HO), σ[i]? = some (some (V.ref a)) ∧ H a = some o ∧ OwR K Hs s o ∧ Hs a = none ∧ W.G a = none
  ap : ∀ (i j : Nat) (s t : Sl) (a : Addr), δ[i]? = some s → s.own = true → δ[j]? = some t → t.own = true → σ[i]? = some (some (V.ref a)) → σ[j]? = some (some (V.ref a)) → i = j
  pin : ∀ p ∈ W.pn, σ[p.1]? = some (some p.2) ∧ ∃ s : Sl, δ[p.1]? = some s ∧ s.own = true
/-- new stable things, all of them fresh -/
structure Gr (Hs H Hs' H' : Hp) : Prop where
  s : Ex Hs Hs'
  h : Ex H H'
  i : Ex Hs' H'
  f : ∀ a, H a ≠ none → Hs' a = Hs a
theorem Gr.refl {Hs H : Hp} (e : Ex Hs H) : Gr Hs H Hs H := ⟨Ex.refl _, Ex.refl _, e, fun _ _ => rfl⟩
theorem ex_none {Hs H : Hp} {p : Addr} (e : Ex Hs H) (h : H p = none) : Hs p = none := by
  cases q : Hs p with
  | none => rfl
  | some o => rw [e p o q] at h; cases h
theorem Gr.new {Hs H : Hp} {p : Addr} {o : HO} (e : Ex Hs H) (h : H p = none) : Gr Hs H (upd Hs p o) (upd H p o) where
  s := ex_new (ex_none e h)
  h := ex_new h
  i := fun a u q => by
    by_cases hap : a = p
    · subst hap; rw [upd_same] at q ⊢; exact q
    · rw [upd_ne hap] at q ⊢; exact e a u q
  f := fun a ha => by
    have hap : a ≠ p := fun z => ha (z ▸ h)
    rw [upd_ne hap]
theorem Gr.trans {Hs H Hs1 H1 Hs2 H2 : Hp} (a : Gr Hs H Hs1 H1) (b : Gr Hs1 H1 Hs2 H2) : Gr Hs H Hs2 H2 where
  s := a.s.trans b.s
  h := a.h.trans b.h
  i := b.i
  f := fun x hx => by
    have h1 : H1 x ≠ none := by
      cases q : H x with
      | none => exact absurd q hx
      | some o => rw [a.h x o q]; simp
    rw [b.f x h1, a.f x hx]
section
variable {K : Frag} {W : Wd} {Hs H Hs' H' : Hp} {σ σ' : L2.St} {δ δ' : Env}
theorem RE.grow (r : RE K W Hs H σ δ) (g : Gr Hs H Hs' H') : RE K W Hs' H' σ δ where
  ex := g.i
  fg := fun a o q => by
    obtain ⟨h1, h2⟩ := r.fg a o q
    refine ⟨g.h a o h1, ?_⟩
    rw [g.f a (by rw [h1]; simp), h2]
  len := r.len
  sh := fun i d q => by
    obtain ⟨v, h1, h2⟩ := r.sh i d q
    exact ⟨v, h1, h2.ex g.s⟩
  ow := fun i s q w => by
    obtain ⟨a, o, h1, h2, h3, h4, h5⟩ := r.ow i s q w
    refine ⟨a, o, h1, g.h a o h2, h3.ex g.s, ?_, h5⟩
    rw [g.f a (by rw [h2]; simp), h4]
  ap := r.ap
  pin := r.pin
/-- a slot that says nothing may hold anything -/
theorem RE.sig (r : RE K W Hs H σ δ) (hl : σ'.length = σ.length) (h : ∀ (i : Nat) (s : Sl), δ[i]? = some s → s ≠ Sl.no → σ'[i]? = σ[i]?) : RE K W Hs H σ' δ where
  ex := r.ex
  fg := r.fg
  len := hl.trans r.len
  sh := fun i d q => by rw [h i _ q (by simp)]; exact r.sh i d q
  ow := fun i s q w => by rw [h i s q (by rintro rfl; cases w)]; exact r.ow i s q w
  ap := fun i j s t a h1 h2 h3 h4 h5 h6 => by
    rw [h i s h1 (by rintro rfl; cases h2)] at h5
    rw [h j t h3 (by rintro rfl; cases h4)] at h6
    exact r.ap i j s t a h1 h2 h3 h4 h5 h6
  pin := fun p hp => by
    obtain ⟨h1, s, h2, h3⟩ := r.pin p hp
    refine ⟨?_, s, h2, h3⟩
    rw [h p.1 s h2 (by rintro rfl; cases h3)]
    exact h1
/-- less is said -/
theorem RE.less (r : RE K W Hs H σ δ) (hl : δ'.length = δ.length) (h : ∀ (i : Nat) (s : Sl), δ'[i]? = some s → s = Sl.no ∨ δ[i]? = some s) (hp : ∀ p ∈ W.pn, δ'[p.1]? = δ[p.1]?) : RE K W Hs H σ δ' where
  ex := r.ex
  fg := r.fg
  len := r.len.trans hl.symm
  sh := fun i d q => by
    rcases h i _ q with z | z
    · cases z
    · exact r.sh i d z
  ow := fun i s q w => by
    rcases h i _ q with z | z
    · subst z; cases w
    · exact r.ow i s z w
  ap := fun i j s t a h1 h2 h3 h4 h5 h6 => by
    rcases h i _ h1 with z | z
    · subst z; cases h2
    · rcases h j _ h3 with z' | z'
      · subst z'; cases h4
      · exact r.ap i j s t a z h2 z' h4 h5 h6
  pin := fun p hpn => by
    obtain ⟨h1, s, h2, h3⟩ := r.pin p hpn
    exact ⟨h1, s, (hp p hpn).trans h2, h3⟩
end
theorem setGet {α : Type} {l : List α} {i j : Nat} {x s : α} (h : (l.set i x)[j]? = some s) : (j = i ∧ s = x) ∨ (j ≠ i ∧ l[j]? = some s) := by
  by_cases e : j = i
  · subst e
    by_cases hl : j < l.length
    · rw [List.getElem?_set_self hl] at h
      exact .inl ⟨rfl, (Option.some.inj h).symm⟩
    · rw [List.getElem?_eq_none (by simpa using hl)] at h; cases h
  · rw [List.getElem?_set_ne (Ne.symm e)] at h
    exact .inr ⟨e, h⟩
theorem set_lt {α : Type} {l : List α} {i : Nat} {x s : α} (h : (l.set i x)[i]? = some s) : i < l.length := by
  by_cases hl : i < l.length
  · exact hl
  · rw [List.getElem?_eq_none (by simpa using hl)] at h; cases h
/-- a fresh list that no name holds yet -/
structure FrO (K : Frag) (W : Wd) (Hs H : Hp) (σ : L2.St) (δ : Env) (a : Addr) (xs : List D) : Prop where
  at_ : ∃ vs, H a = some (.lst vs) ∧ Rps K Hs vs xs
  hs : Hs a = none
  g : W.G a = none
  ne : ∀ (i : Nat) (s : Sl), δ[i]? = some s → s.own = true → σ[i]? ≠ some (some (V.ref a))
section
variable {K : Frag} {W : Wd} {Hs H Hs' H' : Hp} {σ : L2.St} {δ : Env} {v : V} {d : D} {i : Nat} {a : Addr} {xs : List D}
theorem RE.setSh (r : RE K W Hs H σ δ) (h : Rp K Hs v d) (hi : i ∉ W.pn.map (·.1)) : RE K W Hs H (σ.set i (some v)) (δ.set i (.sh d)) where
  ex := r.ex
  fg := r.fg
  len := by rw [List.length_set, List.length_set]; exact r.len
  sh := fun j e q => by
    rcases setGet q with ⟨rfl, z⟩ | ⟨hj, z⟩
    · cases z
      have hl := set_lt q
      exact ⟨v, by rw [List.getElem?_set_self (by rw [r.len]; exact hl)], h⟩
    · rw [List.getElem?_set_ne (Ne.symm hj)]
      exact r.sh j e z
  ow := fun j s q w => by
    rcases setGet q with ⟨rfl, z⟩ | ⟨hj, z⟩
    · subst z; cases w
    · rw [List.getElem?_set_ne (Ne.symm hj)]
      exact r.ow j s z w
  ap := fun j k s t b h1 h2 h3 h4 h5 h6 => by
    rcases setGet h1 with ⟨rfl, z⟩ | ⟨hj, z⟩
    · subst z; cases h2
    · rcases setGet h3 with ⟨rfl, z'⟩ | ⟨hk, z'⟩
      · subst z'; cases h4
      · rw [List.getElem?_set_ne (Ne.symm hj)] at h5
        rw [List.getElem?_set_ne (Ne.symm hk)] at h6
        exact r.ap j k s t b z h2 z' h4 h5 h6
  pin := fun p hp => by
    have hne : i ≠ p.1 := fun z => hi (z ▸ List.mem_map_of_mem hp)
    rw [List.getElem?_set_ne hne, List.getElem?_set_ne hne]
    exact r.pin p hp
/-- the list of a slot is changed in place -/
theorem RE.write {s : Sl} {o : HO} (r : RE K W Hs H σ δ) {t : Sl} (ht : δ[i]? = some t) (hto : t.own = true) (ha : σ[i]? = some (some (V.ref a))) (hs : s.own = true) (ho : OwR K Hs s o) : RE K W Hs (upd H a o) σ (δ.set i s) := by
  obtain ⟨a', o', e1, e2, e3, e4, e5⟩ := r.ow i t ht hto
  have haa : a' = a := by rw [ha] at e1; cases e1; rfl
  subst haa
  have hil : i < δ.length := (List.getElem?_eq_some_iff.mp ht).1
  exact {
    ex := fun b u q => by
      have hb : b ≠ a' := fun z => by rw [z, e4] at q; cases q
      rw [upd_ne hb]; exact r.ex b u q
    fg := fun b u q => by
      have hb : b ≠ a' := fun z => by rw [z, e5] at q; cases q
      rw [upd_ne hb]; exact r.fg b u q
    len := by rw [List.length_set]; exact r.len
    sh := fun j e q => by
      rcases setGet q with ⟨rfl, z⟩ | ⟨hj, z⟩
      · subst z; cases hs
      · exact r.sh j e z
    ow := fun j u q w => by
      rcases setGet q with ⟨rfl, z⟩ | ⟨hj, z⟩
      · subst z; exact ⟨a', o, ha, upd_same, ho, e4, e5⟩
      · obtain ⟨b, p, f1, f2, f3, f4, f5⟩ := r.ow j u z w
        have hb : b ≠ a' := fun zz => by
          subst zz
          exact hj (r.ap j i u t b z w ht hto f1 ha)
        exact ⟨b, p, f1, by rw [upd_ne hb]; exact f2, f3, f4, f5⟩
    ap := fun j k u w b h1 h2 h3 h4 h5 h6 => by
      have f : ∀ {j : Nat} {u : Sl}, (δ.set i s)[j]? = some u → u.own = true → ∃ u', δ[j]? = some u' ∧ u'.own = true := fun {j u} q w => by
        rcases setGet q with ⟨rfl, z⟩ | ⟨hj, z⟩
        · exact ⟨t, ht, hto⟩
        · exact ⟨u, z, w⟩
      obtain ⟨u1, q1, w1⟩ := f h1 h2
      obtain ⟨u2, q2, w2⟩ := f h3 h4
      exact r.ap j k u1 u2 b q1 w1 q2 w2 h5 h6
    pin := fun p hp => by
      obtain ⟨h1, u, h2, h3⟩ := r.pin p hp
      refine ⟨h1, ?_⟩
      by_cases hpi : i = p.1
      · exact ⟨s, by rw [← hpi, List.getElem?_set_self hil], hs⟩
      · exact ⟨u, by rw [List.getElem?_set_ne hpi]; exact h2, h3⟩ }
end
end Dn
namespace Dn
open PySem PySem.Spec PyProof.Rows L2
/-- what is wanted of an exception -/
abbrev XQ := Exn → L2.St → Hp → Prop
abbrev noX : XQ := fun _ _ _ => False
def Post {α : Type} (K : Frag) (E : XQ) (W : Wd) (Hs : Hp) (σ : L2.St) (r : Res α) (Q : α → Hp → Hp → Env → Prop) : Prop :=
  match r with
  | .ok a δ' => ∀ Hs' H', Ex Hs Hs' → RE K W Hs' H' σ δ' → Q a Hs' H' δ'
  | .exc x δ' => ∀ Hs' H', Ex Hs Hs' → RE K W Hs' H' σ δ' → E x σ H'
  | .bad => False
theorem Post.ex {α : Type} {K : Frag} {E : XQ} {W : Wd} {Hs Hs1 : Hp} {σ : L2.St} {r : Res α} {Q : α → Hp → Hp → Env → Prop} (h : Post K E W Hs σ r Q) (e : Ex Hs Hs1) : Post K E W Hs1 σ r Q := by
  cases r with
  | ok a δ' => exact fun Hs' H' e' r => h Hs' H' (e.trans e') r
  | exc x δ' => exact fun Hs' H' e' r => h Hs' H' (e.trans e') r
  | bad => exact h
theorem Post.of {α : Type} {K : Frag} {E : XQ} {W : Wd} {Hs H : Hp} {σ : L2.St} {a : α} {δ : Env} {Q : α → Hp → Hp → Env → Prop} (h : Post K E W Hs σ (.ok a δ) Q) (r : RE K W Hs H σ δ) : Q a Hs H δ := h Hs H (Ex.refl _) r
theorem Post.grow {α : Type} {K : Frag} {E : XQ} {W : Wd} {Hs H Hs' H' : Hp} {σ : L2.St} {a : α} {δ : Env} {Q : α → Hp → Hp → Env → Prop} (h : Post K E W Hs σ (.ok a δ) Q) (r : RE K W Hs H σ δ) (g : Gr Hs H Hs' H') : Q a Hs' H' δ :=
  h Hs' H' g.s (r.grow g)
/-- a run from some world that the slots and the heap bear -/
def Cf {α : Type} (K : Frag) (E : XQ) (ps : List Nat) (m : M α) (σ : L2.St) (H : Hp) (Q : Wd → α → Hp → Hp → Env → Prop) : Prop :=
  ∃ (W : Wd) (Hs : Hp) (δ : Env), W.pn.map (·.1) = ps ∧ RE K W Hs H σ δ ∧ Post K E W Hs σ (m δ) (Q W)
def tOf (K : Frag) (E : XQ) (ps : List Nat) (m : M D) : TE := fun σ H Q => Cf K E ps m σ H fun _ d Hs' H' _ => ∀ v, Rp K Hs' v d → Q v H'
def tOfT (K : Frag) (E : XQ) (ps : List Nat) (m : M Bool) : TT := fun σ H Q => Cf K E ps m σ H fun _ b _ H' _ => Q b H'
def tOfO (K : Frag) (E : XQ) (ps : List Nat) (m : M (List D)) : TE := fun σ H Q => Cf K E ps m σ H fun W xs Hs' H' δ' => ∀ a, FrO K W Hs' H' σ δ' a xs → Q (.ref a) H'
/-- an argument: shared data, or a list of one's own -/
inductive Ag where
  | sh (d : D)
  | ow (i : Nat)
def AgR (K : Frag) (Hs : Hp) (σ : L2.St) : List V → List Ag → Prop
  | [], [] => True
  | v :: vs, .sh d :: gs => Rp K Hs v d ∧ AgR K Hs σ vs gs
  | v :: vs, .ow i :: gs => σ[i]? = some (some v) ∧ AgR K Hs σ vs gs
  | _, _ => False
def tOfA (K : Frag) (E : XQ) (ps : List Nat) (m : M (List Ag)) : TA := fun σ H Q => Cf K E ps m σ H fun _ gs Hs' H' _ => ∀ vs, AgR K Hs' σ vs gs → Q vs H'
theorem AgR.ex {K : Frag} {Hs Hs' : Hp} {σ : L2.St} (e : Ex Hs Hs') : ∀ {vs : List V} {gs : List Ag}, AgR K Hs σ vs gs → AgR K Hs' σ vs gs
  | [], [], _ => trivial
  | [], _ :: _, h => h.elim
  | _ :: _, [], h => h.elim
  | _ :: _, .sh _ :: _, h => ⟨h.1.ex e, AgR.ex e h.2⟩
  | _ :: _, .ow _ :: _, h => ⟨h.1, AgR.ex e h.2⟩
section
variable {K : Frag} {E : XQ} {ps : List Nat} {W : Wd} {Hs H : Hp} {σ : L2.St} {δ : Env}
/-- one step of a run: a part is run, the rest goes on -/
theorem Cf.step {α β : Type} {ma : M α} {f : α → M β} {QQ : β → Hp → Hp → Env → Prop} {R : Wd → α → Hp → Hp → Env → Prop} (hp : W.pn.map (·.1) = ps) (re : RE K W Hs H σ δ) (po : Post K E W Hs σ (mBind ma f δ) QQ)
    (k : ∀ a Hs1 H1 δ1, Ex Hs Hs1 → RE K W Hs1 H1 σ δ1 → Post K E W Hs1 σ (f a δ1) QQ → R W a Hs1 H1 δ1) : Cf K E ps ma σ H R := by
  refine ⟨W, Hs, δ, hp, re, ?_⟩
  unfold mBind at po
  cases h : ma δ with
  | ok a δ1 =>
    rw [h] at po
    exact fun Hs' H' e r => k a Hs' H' δ1 e r (Post.ex po e)
  | exc x δ1 =>
    rw [h] at po
    exact po
  | bad =>
    rw [h] at po
    exact po
theorem tOf.step {β : Type} {ma : M D} {f : D → M β} {QQ : β → Hp → Hp → Env → Prop} {R : V → Hp → Prop} (hp : W.pn.map (·.1) = ps) (re : RE K W Hs H σ δ) (po : Post K E W Hs σ (mBind ma f δ) QQ)
    (k : ∀ v d Hs1 H1 δ1, Ex Hs Hs1 → RE K W Hs1 H1 σ δ1 → Rp K Hs1 v d → Post K E W Hs1 σ (f d δ1) QQ → R v H1) : tOf K E ps ma σ H R :=
  Cf.step hp re po fun d Hs1 H1 δ1 e r p v rv => k v d Hs1 H1 δ1 e r rv p
theorem tOfT.step {β : Type} {ma : M Bool} {f : Bool → M β} {QQ : β → Hp → Hp → Env → Prop} {R : Bool → Hp → Prop} (hp : W.pn.map (·.1) = ps) (re : RE K W Hs H σ δ) (po : Post K E W Hs σ (mBind ma f δ) QQ)
    (k : ∀ b Hs1 H1 δ1, Ex Hs Hs1 → RE K W Hs1 H1 σ δ1 → Post K E W Hs1 σ (f b δ1) QQ → R b H1) : tOfT K E ps ma σ H R :=
  Cf.step hp re po k
theorem tOfA.step {β : Type} {ma : M (List Ag)} {f : List Ag → M β} {QQ : β → Hp → Hp → Env → Prop} {R : List V → Hp → Prop} (hp : W.pn.map (·.1) = ps) (re : RE K W Hs H σ δ) (po : Post K E W Hs σ (mBind ma f δ) QQ)
    (k : ∀ vs gs Hs1 H1 δ1, Ex Hs Hs1 → RE K W Hs1 H1 σ δ1 → AgR K Hs1 σ vs gs → Post K E W Hs1 σ (f gs δ1) QQ → R vs H1) : tOfA K E ps ma σ H R :=
  Cf.step hp re po fun gs Hs1 H1 δ1 e r p vs rv => k vs gs Hs1 H1 δ1 e r rv p
theorem tOfO.step {β : Type} {ma : M (List D)} {f : List D → M β} {QQ : β → Hp → Hp → Env → Prop} {R : V → Hp → Prop} (hp : W.pn.map (·.1) = ps) (re : RE K W Hs H σ δ) (po : Post K E W Hs σ (mBind ma f δ) QQ)
    (k : ∀ a xs Hs1 H1 δ1, Ex Hs Hs1 → RE K W Hs1 H1 σ δ1 → FrO K W Hs1 H1 σ δ1 a xs → Post K E W Hs1 σ (f xs δ1) QQ → R (.ref a) H1) : tOfO K E ps ma σ H R :=
  Cf.step hp re po fun xs Hs1 H1 δ1 e r p a fa => k a xs Hs1 H1 δ1 e r fa p
/-- the last part of a run -/
theorem Cf.last {α : Type} {ma : M α} {R : Wd → α → Hp → Hp → Env → Prop} (hp : W.pn.map (·.1) = ps) (re : RE K W Hs H σ δ) (po : Post K E W Hs σ (ma δ) (R W)) : Cf K E ps ma σ H R := ⟨W, Hs, δ, hp, re, po⟩
theorem Post.opt {α : Type} {o : Option α} {QQ : α → Hp → Hp → Env → Prop} (po : Post K E W Hs σ (mOpt o δ) QQ) : ∃ a, o = some a ∧ Post K E W Hs σ (.ok a δ) QQ := by
  unfold mOpt at po
  cases o with
  | none => exact po.elim
  | some a => exact ⟨a, rfl, po⟩
end
theorem pe_imp {X : Cx} {e : Expr} {t t' : TE} (h : PE X e t) (k : ∀ σ H Q, t' σ H Q → t σ H Q) : PE X e t' := ⟨fun pins s σ H Q I q => h.run pins s σ H Q I (k σ H Q q)⟩
theorem pt_imp {X : Cx} {e : Expr} {t t' : TT} (h : PT X e t) (k : ∀ σ H Q, t' σ H Q → t σ H Q) : PT X e t' := ⟨fun pins s σ H Q I q => h.run pins s σ H Q I (k σ H Q q)⟩
theorem pw_imp {X : Cx} {e : Expr} {t t' : TT} (h : PW X e t) (k : ∀ σ H Q, t' σ H Q → t σ H Q) : PW X e t' := ⟨fun wh pins s σ H Q I q => h.run wh pins s σ H Q I (k σ H Q q)⟩
theorem pa_imp {X : Cx} {e : List Expr} {t t' : TA} (h : PA X e t) (k : ∀ σ H Q, t' σ H Q → t σ H Q) : PA X e t' := ⟨fun p pins s σ H Q I q => h.run p pins s σ H Q I (k σ H Q q)⟩
theorem pst_imp {X : Cx} {e : Stmt} {t t' : TS} (h : PS X e t) (k : ∀ D σ H, t' D σ H → t D σ H) : PS X e t' := ⟨fun pins s σ H D I q => h.run pins s σ H D I (k D σ H q)⟩
theorem pss_imp {X : Cx} {e : List Stmt} {t t' : TS} (h : PSs X e t) (k : ∀ D σ H, t' D σ H → t D σ H) : PSs X e t' := ⟨fun pins s σ H D I q => h.run pins s σ H D I (k D σ H q)⟩
section
variable {X : Cx} {E : XQ} {ps : List Nat} {a b e : Expr} {pos : Pos} {ma mb : M D}
def mVar (i : Nat) : M D := fun δ => match δ[i]? with
  | some (.sh d) => .ok d δ
  | _ => .bad
theorem je_var {i : Nat} {x : Str} (hN : X.N[i]? = some x) (hv : Vis X.env.scope x) (hd : (x == ("__debug__" : Str)) = false := by decide) (hcd : (x == ("__classdict__" : Str)) = false := by decide) : PE X (.Name x pos) (tOf X.K E ps (mVar i)) :=
  pe_imp (pe_var hN hv hd hcd) fun σ H Q ⟨W, Hs, δ, hp, re, po⟩ => by
    unfold mVar at po
    split at po
    · rename_i d hd
      obtain ⟨v, h1, h2⟩ := re.sh i d hd
      exact ⟨v, h1, po Hs H (Ex.refl _) re v h2⟩
    · exact po.elim
/-- a constant -/
def mC (d : D) : M D := mPure d
theorem je_c {t : TE} {d : D} {v : V} (h : PE X e (tC v)) (hv : ∀ H, Rp X.K H v d) : PE X e (tOf X.K E ps (mC d)) :=
  pe_imp h fun σ H Q ⟨W, Hs, δ, hp, re, po⟩ => Post.of po re v (hv Hs)
theorem je_int {i : Int} {j pos} : PE X (.Constant (.int i) j pos) (tOf X.K E ps (mC (.int i))) := je_c (t := tC (.int i)) pe_int fun _ => .int i
theorem je_bl {i : Bool} {j pos} : PE X (.Constant (.bool i) j pos) (tOf X.K E ps (mC (.bool i))) := je_c (t := tC (.bl i)) pe_bl fun _ => .bl i
theorem je_non {j pos} : PE X (.Constant .none j pos) (tOf X.K E ps (mC .none)) := je_c (t := tC .non) pe_non fun _ => .non
theorem je_str {x : Str} {j pos} : PE X (.Constant (.str x) j pos) (tOf X.K E ps (mC (.str x))) := je_c (t := tC (.str x)) pe_str fun _ => .str x
theorem je_glob {x : Str} {v : V} {u : Value} {d : D} (hg : Gl X x) (hm : X.mg x = some u) (r : RelV v u) (hv : ∀ H, Rp X.K H v d) (hd : (x == ("__debug__" : Str)) = false := by decide) : PE X (.Name x pos) (tOf X.K E ps (mC d)) := je_c (t := tC v) (pe_glob hg hm r hd) hv
/-- a reading by values gives what a function upon data tells -/
def OpS (K : Frag) (r : R2) (g : D → D → Option D) : Prop := ∀ Hs H x y d e c (Q : VK), Ex Hs H → Rp K Hs x d → Rp K Hs y e → g d e = some c → (∀ v Hs' H', Gr Hs H Hs' H' → Rp K Hs' v c → Q v H') → r x y H Q
theorem OpS.or {K : Frag} {r r' : R2} {g g' : D → D → Option D} (h : OpS K r g) (h' : OpS K r' g') : OpS K (fun x y H Q => r x y H Q ∨ r' x y H Q) (fun d e => (g d e).or (g' d e)) := fun Hs H x y d e c Q ex rx ry hg k => by
  have hg : (g d e).or (g' d e) = some c := hg
  cases q : g d e with
  | some c' =>
    rw [q] at hg
    have hc : c' = c := by simpa using hg
    subst hc
    exact .inl (h Hs H x y d e c' Q ex rx ry q k)
  | none =>
    rw [q] at hg
    exact .inr (h' Hs H x y d e c Q ex rx ry (by simpa using hg) k)
def mBin (g : D → D → Option D) (ma mb : M D) : M D := mBind ma fun d => mBind mb fun e => mOpt (g d e)
theorem binS {r : R2} {g : D → D → Option D} (hr : OpS X.K r g) {σ : L2.St} {H : Hp} {Q : VK} (h : tOf X.K E ps (mBin g ma mb) σ H Q) : tOp r (tOf X.K E ps ma) (tOf X.K E ps mb) σ H Q := by
  obtain ⟨W, Hs, δ, hp, re, po⟩ := h
  refine tOf.step hp re po fun x d Hs1 H1 δ1 e1 re1 r1 po1 => ?_
  refine tOf.step hp re1 po1 fun y e Hs2 H2 δ2 e2 re2 r2 po2 => ?_
  obtain ⟨c, hc, po3⟩ := Post.opt po2
  exact hr Hs2 H2 x y d e c Q re2.ex (r1.ex e2) r2 hc fun v Hs' H' g rv => Post.grow po3 re2 g v rv
theorem je_bin {op : Operator} {r : R2} {g : D → D → Option D} (ho : OpR X (binaryOp op) r) (hr : OpS X.K r g) (ha : PE X a (tOf X.K E ps ma)) (hb : PE X b (tOf X.K E ps mb)) : PE X (.BinOp a op b pos) (tOf X.K E ps (mBin g ma mb)) :=
  pe_imp (pe_op ho ha hb) fun _ _ _ h => binS hr h
theorem je_cmp {op : CmpOp} {r : R2} {g : D → D → Option D} (ho : OpR X (compareOp op) r) (hr : OpS X.K r g) (ha : PE X a (tOf X.K E ps ma)) (hb : PE X b (tOf X.K E ps mb)) (hm : behindInMarks op b = false) : PE X (.Compare a [op] [b] pos) (tOf X.K E ps (mBin g ma mb)) :=
  pe_imp (pe_cmpR ho ha hb hm) fun _ _ _ h => binS hr h
def toB : D → Option Bool
  | .bool b => some b
  | _ => none
def mTest (m : M D) : M Bool := mBind m fun d => mOpt (toB d)
theorem testS {t : TE} {m : M D} (h : ∀ σ H Q, tOf X.K E ps m σ H Q → t σ H Q) {σ : L2.St} {H : Hp} {Q : Bool → Hp → Prop} (q : tOfT X.K E ps (mTest m) σ H Q) : tTest t σ H Q := by
  obtain ⟨W, Hs, δ, hp, re, po⟩ := q
  refine h _ _ _ (tOf.step hp re po fun x d Hs1 H1 δ1 e1 re1 r1 po1 => ?_)
  obtain ⟨c, hc, po3⟩ := Post.opt po1
  cases r1 <;> simp [toB] at hc
  subst hc
  exact ⟨_, rfl, Post.of po3 re1⟩
theorem jt_cmp {op : CmpOp} {r : R2} {g : D → D → Option D} (ho : OpR X (compareOp op) r) (hr : OpS X.K r g) (ha : PE X a (tOf X.K E ps ma)) (hb : PE X b (tOf X.K E ps mb)) (hm : behindInMarks op b = false) : PT X (.Compare a [op] [b] pos) (tOfT X.K E ps (mTest (mBin g ma mb))) :=
  pt_imp (pt_cmpR ho ha hb hm) fun _ _ _ h => testS (fun _ _ _ => binS hr) h
/-- an expression that is True or False, as a test -/
theorem jt_val {m : M D} (h : PE X e (tOf X.K E ps m)) (he : ∀ whole, isTrue e X.env whole = (do let v ← whole; standAt e.pos; holding [v] (truthy v)) := by intro _; rfl) : PT X e (tOfT X.K E ps (mTest m)) :=
  pt_imp (pt_val h he) fun _ _ _ q => testS (fun _ _ _ z => z) q
/-- an int, a text, a list .. as a test -/
def truD : D → Option Bool
  | .none => some false
  | .bool b => some b
  | .int i => some (i != 0)
  | .str x => if x.length ≤ sizeLine then some (x.length != 0) else none
  | .list xs => some (!xs.isEmpty)
  | .tuple xs => some (!xs.isEmpty)
  | _ => none
def mChain (g g' : D → D → Option D) (ma mb mc : M D) : M D := mBind ma fun d => mBind mb fun e => mBind (mOpt ((g d e).bind toB)) fun k => if k then mBind mc fun f => mOpt (g' e f) else mPure (.bool false)
variable {c : Expr} {mc : M D}
/-- comparisons that give truths and lay nothing -/
def OpB (K : Frag) (r : R2) (g : D → D → Option D) : Prop := ∀ Hs H x y d e k (Q : VK), Ex Hs H → Rp K Hs x d → Rp K Hs y e → (g d e).bind toB = some k → Q (.bl k) H → r x y H Q
theorem chainS {r r' : R2} {g g' : D → D → Option D} (hr : OpB X.K r g) (hr' : OpS X.K r' g') {σ : L2.St} {H : Hp} {Q : VK} (h : tOf X.K E ps (mChain g g' ma mb mc) σ H Q) : tChain r r' (tOf X.K E ps ma) (tOf X.K E ps mb) (tOf X.K E ps mc) σ H Q := by
  obtain ⟨W, Hs, δ, hp, re, po⟩ := h
  refine tOf.step hp re po fun x d Hs1 H1 δ1 e1 re1 r1 po1 => ?_
  refine tOf.step hp re1 po1 fun y e Hs2 H2 δ2 e2 re2 r2 po2 => ?_
  have q : ∃ k, (g d e).bind toB = some k ∧ Post X.K E W Hs2 σ ((if k then mBind mc fun f => mOpt (g' e f) else mPure (.bool false)) δ2) fun d Hs' H' _ => ∀ v, Rp X.K Hs' v d → Q v H' := by
    unfold mBind at po2
    unfold mOpt at po2
    cases z : (g d e).bind toB with
    | none => rw [z] at po2; exact po2.elim
    | some k => rw [z] at po2; exact ⟨k, rfl, po2⟩
  obtain ⟨k, hk, po3⟩ := q
  refine hr Hs2 H2 x y d e k _ re2.ex (r1.ex e2) r2 hk ⟨k, rfl, ?_⟩
  cases k with
  | true =>
    rw [if_pos rfl] at po3 ⊢
    refine tOf.step hp re2 po3 fun z f Hs3 H3 δ3 e3 re3 r3 po4 => ?_
    obtain ⟨c, hc, po5⟩ := Post.opt po4
    exact hr' Hs3 H3 y z e f c Q re3.ex (r2.ex e3) r3 hc fun v Hs' H' g rv => Post.grow po5 re3 g v rv
  | false =>
    rw [if_neg Bool.false_ne_true] at po3 ⊢
    exact Post.of po3 re2 _ (.bl false)
end
end Dn
namespace Dn
open PySem PySem.Spec PyProof.Rows L2
section
variable {X : Cx} {K : Frag}
/-- two lists that stand in the heap, put together -/
def rCatR (K : Frag) : R2 := fun x y H Q => ∃ (l b : Addr) (xs zs : List V), x = .ref l ∧ y = .ref b ∧ SqL K H l xs ∧ SqL K H b zs ∧ xs.length + zs.length ≤ sizeLine ∧ ∀ p, H p = none → Q (.ref p) (upd H p (.lst (xs ++ zs)))
theorem op_catR : OpR X (binaryOp .Add) (rCatR X.K) := by
  intro pins s σ H x y v u Q I rx ry h
  obtain ⟨l, b, xs, zs, e1, e2, hl, hb, hz, q⟩ := h
  subst e1; subst e2
  obtain rfl : v = Value.ref l := rx
  obtain rfl : u = Value.ref b := ry
  obtain ⟨its, r1, ⟨o1, n1, g1, c1, d1, t1⟩, _⟩ := I.list hl
  obtain ⟨jts, r2, ⟨o2, n2, g2, c2, d2, t2⟩, _⟩ := I.list hb
  cases o1
  cases o2
  simp only at c1 d1 t1 c2 d2 t2
  subst c1 d1 t1 c2 d2 t2
  have m1 := r1.length
  have m2 := r2.length
  have ea : its.toArray ++ jts.toArray = (its ++ jts).toArray := by simp
  refine concat_meets ⟨_, g1, rfl⟩ ⟨_, g2, rfl⟩ noFill_list_add seq_list_add PySem.F.slot_list_add PySem.F.entry_list_add
    (PySem.F.args_list_add_2 _ _) (PyProof.Rows.list_addW l b its.toArray jts.toArray _ _ _ _ _ _ (by simp only [List.size_toArray]; omega)) ⟨g1, g2, ?_⟩
  rw [ea]
  have hlen : (xs ++ zs).length ≤ sizeLine := by simp only [List.length_append]; omega
  exact ⟨.ref _, _, I.lnew (t' := s.toks) (r1.append r2) hlen, rfl, q _ I.fresh⟩
def rAddA (K : Frag) : R2 := fun x y H Q => (rI0 fun i j => .int (i + j)) x y H Q ∨ (∃ i j, x = .str i ∧ y = .str j ∧ i.length + j.length ≤ sizeLine ∧ Q (.str (i ++ j)) H) ∨ rCatA K x y H Q ∨ rCatR K x y H Q
theorem op_addA : OpR X (binaryOp .Add) (rAddA X.K) := op_add.or (op_add_str.or (op_catA.or op_catR))
def dAdd : D → D → Option D
  | .int i, .int j => some (.int (i + j))
  | .str x, .str y => if x.length + y.length ≤ sizeLine then some (.str (x ++ y)) else none
  | .tuple xs, .tuple ys => if xs.length + ys.length ≤ sizeLine then some (.tuple (xs ++ ys)) else none
  | .list xs, .list ys => if xs.length + ys.length ≤ sizeLine then some (.list (xs ++ ys)) else none
  | _, _ => none
theorem Rps.nil_iff {H : Hp} {vs : List V} {ds : List D} (h : Rps K H vs ds) : vs = [] ↔ ds = [] := by
  cases h <;> simp
theorem os_add : OpS K (rAddA K) dAdd := fun Hs H x y d e c Q ex rx ry hg k => by
  cases rx with
  | int i =>
    cases ry <;> simp [dAdd] at hg
    subst hg
    exact .inl ⟨i, _, rfl, rfl, k _ Hs H (.refl ex) (.int _)⟩
  | str a =>
    cases ry <;> simp [dAdd] at hg
    obtain ⟨hl, hg⟩ := hg
    subst hg
    exact .inr (.inl ⟨a, _, rfl, rfl, hl, k _ Hs H (.refl ex) (.str _)⟩)
  | tup h1 t1 =>
    cases ry with
    | tup h2 t2 =>
      simp [dAdd] at hg
      obtain ⟨hl, hg⟩ := hg
      subst hg
      refine .inr (.inr (.inl ⟨_, _, _, _, rfl, rfl, sqT_ex ex h1, sqT_ex ex h2, by rw [t1.length, t2.length]; exact hl, fun z => ?_, fun z1 z2 => ?_, fun z1 z2 p hp => ?_⟩))
      · have z' := t1.nil_iff.mp z
        subst z'
        exact k _ Hs H (.refl ex) (.tup h2 t2)
      · have z' := t2.nil_iff.mp z2
        subst z'
        exact k _ Hs H (.refl ex) (by rw [List.append_nil]; exact .tup h1 t1)
      · exact k _ _ _ (Gr.new ex hp) (.tup (StT.of upd_same) ((t1.append t2).ex (Gr.new ex hp).s))
    | _ => simp [dAdd] at hg
  | lst h1 t1 =>
    cases ry with
    | lst h2 t2 =>
      simp [dAdd] at hg
      obtain ⟨hl, hg⟩ := hg
      subst hg
      refine .inr (.inr (.inr ⟨_, _, _, _, rfl, rfl, sqL_ex ex h1, sqL_ex ex h2, by rw [t1.length, t2.length]; exact hl, fun p hp => ?_⟩))
      exact k _ _ _ (Gr.new ex hp) (.lst (SqL.of upd_same) ((t1.append t2).ex (Gr.new ex hp).s))
    | _ => simp [dAdd] at hg
  | _ => cases ry <;> simp [dAdd] at hg
/-- two ints -/
def dI (C : Int → Int → Bool) (f : Int → Int → Int) : D → D → Option D
  | .int i, .int j => if C i j then some (.int (f i j)) else none
  | _, _ => none
theorem os_I {P : Int → Int → Prop} {C : Int → Int → Bool} {f : Int → Int → Int} (hC : ∀ i j, C i j = true → P i j) : OpS K (rI P fun i j => .int (f i j)) (dI C f) := fun Hs H x y d e c Q ex rx ry hg k => by
  cases rx with
  | int i =>
    cases ry <;> simp [dI] at hg
    obtain ⟨hc, hg⟩ := hg
    subst hg
    exact ⟨i, _, rfl, rfl, hC _ _ hc, k _ Hs H (.refl ex) (.int _)⟩
  | _ => cases ry <;> simp [dI] at hg
theorem os_I0 {f : Int → Int → Int} : OpS K (rI0 fun i j => .int (f i j)) (dI (fun _ _ => true) f) := fun Hs H x y d e c Q ex rx ry hg k => by
  cases rx with
  | int i =>
    cases ry <;> simp [dI] at hg
    subst hg
    exact ⟨i, _, rfl, rfl, k _ Hs H (.refl ex) (.int _)⟩
  | _ => cases ry <;> simp [dI] at hg
abbrev dSub := dI (fun _ _ => true) (fun i j => i - j)
theorem os_sub : OpS K (rI0 fun i j => .int (i - j)) dSub := os_I0
abbrev dMod := dI (fun _ j => decide (0 < j)) (fun i j => i % j)
theorem os_mod : OpS K (rI (fun _ j => 0 < j) fun i j => .int (i % j)) dMod := os_I fun _ _ h => of_decide_eq_true h
abbrev dDiv := dI (fun _ j => decide (0 < j ∧ j < 4611686018427387904)) (fun i j => i / j)
theorem os_div : OpS K (rI CDivW fun i j => .int (i / j)) dDiv := os_I fun i j h => by
  obtain ⟨h1, h2⟩ := (of_decide_eq_true h : 0 < j ∧ j < 4611686018427387904)
  refine ⟨h1, Nat.lt_trans (Nat.log2_lt (by omega) |>.mpr (?_ : j.natAbs < 2 ^ 62)) (by decide)⟩
  omega
abbrev dPow := dI (fun i j => decide (0 ≤ j ∧ j ≤ 1000000 ∧ i.natAbs < 2 ^ 64)) (fun i j => i ^ j.toNat)
theorem os_pow : OpS K (rI CPow fun i j => .int (i ^ j.toNat)) dPow := os_I fun i j h => (of_decide_eq_true h : 0 ≤ j ∧ j ≤ 1000000 ∧ i.natAbs < 2 ^ 64)
theorem rep_size (a : Array Nat) : ∀ (n : Nat) (acc : Array Nat), ((List.replicate n a).foldl (· ++ ·) acc).size = acc.size + n * a.size
  | 0, acc => by simp
  | n + 1, acc => by
    rw [List.replicate_succ, List.foldl_cons, rep_size a n, Array.size_append, Nat.succ_mul]
    omega
/-- a text some times -/
def strRep (x : Str) (n : Int) : Str := if n < 1 then Str.empty else if (n == 1 || x.length == 0) = true then x else ⟨(List.replicate n.toNat x.cps).foldl (· ++ ·) #[]⟩
def rRepS : R2 := fun x y H Q => ∃ z n, x = .str z ∧ y = .int n ∧ (-1000000 ≤ n ∧ n ≤ 1000000 ∧ z.length ≤ 16) ∧ Q (.str (strRep z n)) H
theorem op_repS : OpR X (binaryOp .Mult) rRepS := by
  intro pins s σ H x y v u Q I rx ry h
  obtain ⟨z, n, e1, e2, ⟨h1, h2, h3⟩, q⟩ := h
  subst e1; subst e2
  obtain ⟨t, rfl⟩ := rx
  obtain ⟨t', rfl⟩ := ry
  have hz : z.length * n.toNat ≤ 16000000 := Nat.le_trans (Nat.mul_le_mul h3 (show n.toNat ≤ 1000000 by omega)) (by decide)
  refine PySem.P.mul_str ?_ (fun a b => ?_) (fun a b => ?_) ?_
  · rw [decide_eq_false (by omega), decide_eq_false (by omega)]; rfl
  · have hn : 1 ≤ n := by omega
    intro hc
    have : (16 : Int) ≤ (2 ^ 63 - 1) / n := by
      refine (Int.le_ediv_iff_mul_le (by omega)).mpr ?_
      omega
    omega
  · unfold Builtin.Str.tooLong
    have h16 : (16000000 : Nat) ≤ sizeLine := by decide
    simp
    omega
  · unfold strRep at q
    split
    · rename_i hn
      rw [if_pos hn] at q
      exact ⟨by decide, ⟨.str Str.empty, H, I.tok _, ⟨_, rfl⟩, q⟩⟩
    · rename_i hn
      rw [if_neg hn] at q
      split
      · rename_i hb
        rw [if_pos hb] at q
        exact ⟨.str z, H, I, ⟨_, rfl⟩, q⟩
      · rename_i hb
        rw [if_neg hb] at q
        refine ⟨?_, ⟨.str _, H, I.tok _, ⟨_, rfl⟩, q⟩⟩
        have h16 : (16000000 : Nat) ≤ sizeLine := by decide
        show (Array.size _) ≤ sizeLine
        rw [rep_size]
        have hm : n.toNat * z.cps.size ≤ 16000000 := by rw [Nat.mul_comm]; exact hz
        simp only [List.size_toArray, List.length_nil]
        omega
end
end Dn
namespace Dn
open PySem PySem.Spec PyProof.Rows L2
section
variable {X : Cx} {K : Frag}
def dMul : D → D → Option D
  | .int i, .int j => if (-(2 ^ 64) < i ∧ i < 2 ^ 64) ∨ (-(2 ^ 64) < j ∧ j < 2 ^ 64) then some (.int (i * j)) else none
  | .str x, .int n => if -1000000 ≤ n ∧ n ≤ 1000000 ∧ x.length ≤ 16 then some (.str (strRep x n)) else none
  | _, _ => none
def rMulA : R2 := fun x y H Q => (rI CMul fun i j => .int (i * j)) x y H Q ∨ rRepS x y H Q
theorem op_mulA : OpR X (binaryOp .Mult) rMulA := op_mul.or op_repS
theorem os_mul : OpS K rMulA dMul := fun Hs H x y d e c Q ex rx ry hg k => by
  cases rx with
  | int i =>
    cases ry <;> simp only [dMul, Option.ite_none_right_eq_some, Option.some.injEq, reduceCtorEq] at hg
    obtain ⟨hc, hg⟩ := hg
    subst hg
    exact .inl ⟨i, _, rfl, rfl, hc, k _ Hs H (.refl ex) (.int _)⟩
  | str z =>
    cases ry <;> simp only [dMul, Option.ite_none_right_eq_some, Option.some.injEq, reduceCtorEq] at hg
    obtain ⟨hc, hg⟩ := hg
    subst hg
    exact .inr ⟨z, _, rfl, rfl, hc, k _ Hs H (.refl ex) (.str _)⟩
  | _ => cases ry <;> simp [dMul] at hg
def dEqB : D → D → Option Bool
  | .str x, .str y => some (decide (x = y))
  | d, e => if SeqAt.shaped d = true ∧ SeqAt.shaped e = true then some (PyData.eqv d e) else none
def dEq (d e : D) : Option D := (dEqB d e).map PyData.bool
def dNe (d e : D) : Option D := (dEqB d e).map fun b => PyData.bool (!b)
def rEqA (K : Frag) (neg : Bool) : R2 := fun x y H Q => (∃ i j, x = .str i ∧ y = .str j ∧ Q (.bl (if neg then !decide (i = j) else decide (i = j))) H) ∨ ∃ d e, Dp K H x d ∧ Dp K H y e ∧ SeqAt.shaped d = true ∧ SeqAt.shaped e = true ∧ Q (.bl (if neg then !PyData.eqv d e else PyData.eqv d e)) H
theorem op_eqA (hu : X.A.units + 64 < cLine) : OpR X (compareOp .Eq) (rEqA X.K false) := by
  refine OpR.or (fun pins s σ H x y v u Q I rx ry h => ?_) (op_eqD hu)
  obtain ⟨i, j, e1, e2, q⟩ := h
  subst e1; subst e2
  refine op_eq pins s σ H _ _ v u Q I rx ry ⟨rfl, ?_⟩
  have e : decide (V.str i = V.str j) = decide (i = j) := by by_cases h : i = j <;> simp [h]
  rw [e]; exact q
theorem op_neA (hu : X.A.units + 64 < cLine) : OpR X (compareOp .NotEq) (rEqA X.K true) := by
  refine OpR.or (fun pins s σ H x y v u Q I rx ry h => ?_) (op_neD hu)
  obtain ⟨i, j, e1, e2, q⟩ := h
  subst e1; subst e2
  refine op_ne pins s σ H _ _ v u Q I rx ry ⟨rfl, ?_⟩
  have e : decide (V.str i = V.str j) = decide (i = j) := by by_cases h : i = j <;> simp [h]
  rw [e]; exact q
theorem eqS {neg : Bool} {Hs H : Hp} {x y : V} {d e : D} {b : Bool} {Q : VK} (ex : Ex Hs H) (rx : Rp K Hs x d) (ry : Rp K Hs y e) (hg : dEqB d e = some b) (q : Q (.bl (if neg then !b else b)) H) : rEqA K neg x y H Q := by
  have gen : (if SeqAt.shaped d = true ∧ SeqAt.shaped e = true then some (PyData.eqv d e) else none) = some b → rEqA K neg x y H Q := fun h => by
    simp only [Option.ite_none_right_eq_some, Option.some.injEq] at h
    obtain ⟨⟨h1, h2⟩, h⟩ := h
    exact .inr ⟨d, e, (rx.ex ex).dp, (ry.ex ex).dp, h1, h2, by rw [h]; exact q⟩
  by_cases hs : ∃ i j, d = .str i ∧ e = .str j
  · obtain ⟨i, j, e1, e2⟩ := hs
    subst e1; subst e2
    cases rx
    cases ry
    have hb : decide (i = j) = b := Option.some.inj hg
    exact .inl ⟨i, j, rfl, rfl, by rw [hb]; exact q⟩
  · refine gen ?_
    rw [← hg]
    cases d <;> first | rfl | (cases e <;> first | rfl | exact absurd ⟨_, _, rfl, rfl⟩ hs)
theorem os_eq : OpS K (rEqA K false) dEq := fun Hs H x y d e c Q ex rx ry hg k => by
  unfold dEq at hg
  cases h : dEqB d e with
  | none => rw [h] at hg; simp at hg
  | some b =>
    rw [h] at hg
    have hc : PyData.bool b = c := by simpa using hg
    subst hc
    exact eqS ex rx ry h (k _ Hs H (.refl ex) (.bl _))
theorem os_ne : OpS K (rEqA K true) dNe := fun Hs H x y d e c Q ex rx ry hg k => by
  unfold dNe at hg
  cases h : dEqB d e with
  | none => rw [h] at hg; simp at hg
  | some b =>
    rw [h] at hg
    have hc : PyData.bool (!b) = c := by simpa using hg
    subst hc
    exact eqS ex rx ry h (k _ Hs H (.refl ex) (.bl _))
/-- order: ints, texts -/
def dOrd (f : Int → Int → Bool) (g : Str → Str → Bool) : D → D → Option D
  | .int i, .int j => some (.bool (f i j))
  | .str x, .str y => some (.bool (g x y))
  | _, _ => none
def rOrd (f : Int → Int → Bool) (g : Str → Str → Bool) : R2 := fun x y H Q => (rI0 fun i j => .bl (f i j)) x y H Q ∨ (∃ i j, x = .str i ∧ y = .str j ∧ Q (.bl (g i j)) H)
theorem os_ord {f : Int → Int → Bool} {g : Str → Str → Bool} : OpS K (rOrd f g) (dOrd f g) := fun Hs H x y d e c Q ex rx ry hg k => by
  cases rx with
  | int i =>
    cases ry <;> simp [dOrd] at hg
    subst hg
    exact .inl ⟨i, _, rfl, rfl, k _ Hs H (.refl ex) (.bl _)⟩
  | str z =>
    cases ry <;> simp [dOrd] at hg
    subst hg
    exact .inr ⟨z, _, rfl, rfl, k _ Hs H (.refl ex) (.bl _)⟩
  | _ => cases ry <;> simp [dOrd] at hg
theorem ob_ord {f : Int → Int → Bool} {g : Str → Str → Bool} : OpB K (rOrd f g) (dOrd f g) := fun Hs H x y d e k Q ex rx ry hg q => by
  cases rx with
  | int i =>
    cases ry <;> simp [dOrd, toB] at hg
    subst hg
    exact .inl ⟨i, _, rfl, rfl, q⟩
  | str z =>
    cases ry <;> simp [dOrd, toB] at hg
    subst hg
    exact .inr ⟨z, _, rfl, rfl, q⟩
  | _ => cases ry <;> simp [dOrd] at hg
abbrev dLt := dOrd (fun i j => decide (i < j)) (fun x y => decide (x.cps.toList < y.cps.toList))
abbrev dLe := dOrd (fun i j => decide (i ≤ j)) (fun x y => !decide (y.cps.toList < x.cps.toList))
abbrev dGt := dOrd (fun i j => decide (j < i)) (fun x y => decide (y.cps.toList < x.cps.toList))
abbrev dGe := dOrd (fun i j => decide (j ≤ i)) (fun x y => !decide (x.cps.toList < y.cps.toList))
theorem op_ltA : OpR X (compareOp .Lt) (rOrd (fun i j => decide (i < j)) (fun x y => decide (x.cps.toList < y.cps.toList))) := op_lt.or op_lt_str
theorem op_leA : OpR X (compareOp .LtE) (rOrd (fun i j => decide (i ≤ j)) (fun x y => !decide (y.cps.toList < x.cps.toList))) := op_le.or op_le_str
theorem op_gtA : OpR X (compareOp .Gt) (rOrd (fun i j => decide (j < i)) (fun x y => decide (y.cps.toList < x.cps.toList))) := op_gt.or op_gt_str
theorem op_geA : OpR X (compareOp .GtE) (rOrd (fun i j => decide (j ≤ i)) (fun x y => !decide (x.cps.toList < y.cps.toList))) := op_ge.or op_ge_str
def flatD : D → Bool
  | .none => true
  | .bool _ => true
  | .int _ => true
  | .str _ => true
  | _ => false
theorem flat_v {H : Hp} {v : V} {d : D} (r : Rp K H v d) (h : flatD d = true) : flatV v = true := by
  cases r <;> first | rfl | exact absurd h (by simp [flatD])
theorem flat_vs {H : Hp} : ∀ {vs : List V} {ds : List D}, Rps K H vs ds → ds.all flatD = true → vs.all flatV = true
  | _, _, .nil, _ => rfl
  | _, _, .cons r t, h => by
    rw [List.all_cons, Bool.and_eq_true] at h ⊢
    exact ⟨flat_v r h.1, flat_vs t h.2⟩
theorem eqv_v {H : Hp} {v w : V} {d e : D} (r : Rp K H v d) (q : Rp K H w e) (h : flatD d = true) (h' : flatD e = true) : eqV v w = PyData.eqv d e := by
  cases r <;> cases q <;> first | (simp [flatD] at h; done) | (simp [flatD] at h'; done) | (simp [eqV, PyData.eqv])
def inD (d : D) (ds : List D) : Bool := ds.any fun z => PyData.eqv z d
theorem in_v {H : Hp} {v : V} {d : D} (r : Rp K H v d) (h : flatD d = true) : ∀ {vs : List V} {ds : List D}, Rps K H vs ds → ds.all flatD = true → inV v vs = inD d ds
  | _, _, .nil, _ => rfl
  | _, _, .cons q t, h' => by
    rw [List.all_cons, Bool.and_eq_true] at h'
    have ih := in_v r h t h'.2
    unfold inV inD at ih ⊢
    rw [List.any_cons, List.any_cons, eqv_v q r h'.1 h, ih]
/-- a text in a text -/
def strIn (x y : Str) : Bool := match x.cps.toList with
  | [c] => decide (c ∈ y.cps.toList)
  | _ => !(Builtin.Str.occurrences y x 0 y.length 1).isEmpty
def dInB : D → D → Option Bool
  | .str x, .str y => some (strIn x y)
  | d, .list ds => if flatD d = true ∧ ds.all flatD = true then some (inD d ds) else none
  | d, .tuple ds => if flatD d = true ∧ ds.all flatD = true then some (inD d ds) else none
  | _, _ => none
def dIn (d e : D) : Option D := (dInB d e).map PyData.bool
def dNotIn (d e : D) : Option D := (dInB d e).map fun b => PyData.bool (!b)
def rInA (K : Frag) (neg : Bool) : R2 := fun x y H Q => rIn K neg x y H Q ∨ (∃ (c : Nat) (z : Str), x = .str ⟨#[c]⟩ ∧ y = .str z ∧ Q (.bl (if neg then !decide (c ∈ z.cps.toList) else decide (c ∈ z.cps.toList))) H) ∨
  (∃ i j, x = .str i ∧ y = .str j ∧ Q (.bl (if neg then !(!(Builtin.Str.occurrences j i 0 j.length 1).isEmpty) else !(Builtin.Str.occurrences j i 0 j.length 1).isEmpty)) H)
theorem op_inA : OpR X (compareOp .In) (rInA X.K false) := op_in_seq.or (op_in_sign.or op_in_str)
theorem op_notInA : OpR X (compareOp .NotIn) (rInA X.K true) := op_notIn_seq.or (op_notIn_sign.or L2.op_notIn_str)
theorem strIn_one {x y : Str} {c : Nat} (h : x = ⟨#[c]⟩) : strIn x y = decide (c ∈ y.cps.toList) := by subst h; rfl
theorem inS {neg : Bool} {Hs H : Hp} {x y : V} {d e : D} {b : Bool} {Q : VK} (ex : Ex Hs H) (rx : Rp K Hs x d) (ry : Rp K Hs y e) (hg : dInB d e = some b) (q : Q (.bl (if neg then !b else b)) H) : rInA K neg x y H Q := by
  have seq : ∀ {p : Addr} {vs : List V} {ds : List D}, y = .ref p → (SqL K H p vs ∨ SqT K H p vs) → Rps K Hs vs ds → (if flatD d = true ∧ ds.all flatD = true then some (inD d ds) else none) = some b → rInA K neg x y H Q := fun {p vs ds} ey hs t h => by
    simp only [Option.ite_none_right_eq_some, Option.some.injEq] at h
    obtain ⟨⟨h1, h2⟩, h⟩ := h
    refine .inl ⟨p, vs, ey, hs, flat_v rx h1, flat_vs t h2, ?_⟩
    rw [in_v rx h1 t h2, h]
    exact q
  cases ry with
  | str z =>
    cases rx with
    | str x =>
      have hb : strIn x z = b := Option.some.inj hg
      by_cases hx : ∃ c, x = ⟨#[c]⟩
      · obtain ⟨c, hc⟩ := hx
        rw [strIn_one hc] at hb
        exact .inr (.inl ⟨c, z, by rw [hc], rfl, by rw [hb]; exact q⟩)
      · refine .inr (.inr ⟨x, z, rfl, rfl, ?_⟩)
        have hb' : (!(Builtin.Str.occurrences z x 0 z.length 1).isEmpty) = b := by
          rw [← hb]
          unfold strIn
          split
          · rename_i c hc
            refine absurd ⟨c, ?_⟩ hx
            cases x with
            | mk cps =>
              have : cps = #[c] := by rw [← Array.toList_inj]; exact hc
              rw [this]
          · rfl
        rw [hb']
        exact q
    | _ => simp [dInB] at hg
  | lst h1 t1 => exact seq rfl (.inl (sqL_ex ex h1)) t1 (by cases rx <;> simpa [dInB] using hg)
  | tup h1 t1 => exact seq rfl (.inr (sqT_ex ex h1)) t1 (by cases rx <;> simpa [dInB] using hg)
  | _ => cases rx <;> simp [dInB] at hg
theorem os_in : OpS K (rInA K false) dIn := fun Hs H x y d e c Q ex rx ry hg k => by
  unfold dIn at hg
  cases h : dInB d e with
  | none => rw [h] at hg; simp at hg
  | some b =>
    rw [h] at hg
    have hc : PyData.bool b = c := by simpa using hg
    subst hc
    exact inS ex rx ry h (k _ Hs H (.refl ex) (.bl _))
theorem os_notIn : OpS K (rInA K true) dNotIn := fun Hs H x y d e c Q ex rx ry hg k => by
  unfold dNotIn at hg
  cases h : dInB d e with
  | none => rw [h] at hg; simp at hg
  | some b =>
    rw [h] at hg
    have hc : PyData.bool (!b) = c := by simpa using hg
    subst hc
    exact inS ex rx ry h (k _ Hs H (.refl ex) (.bl _))
@[reducible] def isN : D → Bool
  | .none => true
  | _ => false
def dIsB : D → D → Option Bool
  | .bool a, .bool b => some (decide (a = b))
  | d, .none => some (isN d)
  | _, _ => none
def dIs (d e : D) : Option D := (dIsB d e).map PyData.bool
def dIsNot (d e : D) : Option D := (dIsB d e).map fun b => PyData.bool (!b)
def rIs (neg : Bool) : R2 := fun x y H Q => (y = .non ∧ Q (.bl (if neg then !decide (x = .non) else decide (x = .non))) H) ∨ ∃ a b, x = .bl a ∧ y = .bl b ∧ Q (.bl (if neg then !decide (a = b) else decide (a = b))) H
theorem op_isNotA : OpR X (compareOp .IsNot) (rIs true) := op_notN.or op_isnot_bl
theorem isN_v {H : Hp} {v : V} {d : D} (r : Rp K H v d) : decide (v = .non) = isN d := by
  cases r <;> simp [isN]
theorem isS {neg : Bool} {Hs H : Hp} {x y : V} {d e : D} {b : Bool} {Q : VK} (rx : Rp K Hs x d) (ry : Rp K Hs y e) (hg : dIsB d e = some b) (q : Q (.bl (if neg then !b else b)) H) : rIs neg x y H Q := by
  cases ry with
  | non =>
    have hb : isN d = b := by cases rx <;> simpa [dIsB] using hg
    refine .inl ⟨rfl, ?_⟩
    rw [isN_v rx, hb]
    exact q
  | bl z =>
    cases rx with
    | bl a =>
      have hb : decide (a = z) = b := Option.some.inj hg
      refine .inr ⟨a, z, rfl, rfl, ?_⟩
      rw [hb]
      exact q
    | _ => simp [dIsB] at hg
  | _ => cases rx <;> simp [dIsB] at hg
theorem os_isNot : OpS K (rIs true) dIsNot := fun Hs H x y d e c Q ex rx ry hg k => by
  unfold dIsNot at hg
  cases h : dIsB d e with
  | none => rw [h] at hg; simp at hg
  | some b =>
    rw [h] at hg
    have hc : PyData.bool (!b) = c := by simpa using hg
    subst hc
    exact isS rx ry h (k _ Hs H (.refl ex) (.bl _))
def dIx : D → D → Option D
  | .list xs, .int i => atI xs i
  | .tuple xs, .int i => atI xs i
  | .str z, .int i => if z.length ≤ sizeLine then (atI z.cps.toList i).map fun c => .str ⟨#[c]⟩ else none
  | _, _ => none
theorem atI_rps {H : Hp} {vs : List V} {ds : List D} {i : Int} {d : D} (t : Rps K H vs ds) (h : atI ds i = some d) : ∃ v, atI vs i = some v ∧ Rp K H v d := by
  unfold atI at h ⊢
  rw [t.length]
  cases q : ixN ds.length i with
  | none => rw [q] at h; simp at h
  | some j =>
    rw [q] at h
    simp only [Option.bind_some] at h ⊢
    exact t.get h
theorem os_ix : OpS K (rIx K) dIx := fun Hs H x y d e c Q ex rx ry hg k => by
  cases ry with
  | int i =>
    cases rx with
    | lst h t =>
      obtain ⟨v, h1, h2⟩ := atI_rps t hg
      exact .inl ⟨_, _, i, v, rfl, rfl, sqL_ex ex h, h1, k v Hs H (.refl ex) h2⟩
    | tup h t =>
      obtain ⟨v, h1, h2⟩ := atI_rps t hg
      exact .inr (.inl ⟨_, _, i, v, rfl, rfl, sqT_ex ex h, h1, k v Hs H (.refl ex) h2⟩)
    | str z =>
      simp only [dIx, Option.ite_none_right_eq_some, Option.map_eq_some_iff] at hg
      obtain ⟨hl, a, ha, hg⟩ := hg
      subst hg
      exact .inr (.inr ⟨z, i, a, rfl, rfl, hl, ha, k _ Hs H (.refl ex) (.str _)⟩)
    | _ => simp [dIx] at hg
  | _ => cases rx <;> simp [dIx] at hg
def cutD (xs : List D) (lo hi : Option Int) : List D := (xs.drop (HT.sIx xs.length 0 lo)).take (HT.sIx xs.length xs.length hi - HT.sIx xs.length 0 lo)
def dSl (d : D) (lo hi : Option Int) : Option D := match d with
  | .str z => if z.length ≤ sizeLine then some (.str (cutS z lo hi)) else none
  | .tuple xs => some (.tuple (cutD xs lo hi))
  | .list xs => some (.list (cutD xs lo hi))
  | _ => none
theorem cut_rps {H : Hp} {vs : List V} {ds : List D} {lo hi : Option Int} (t : Rps K H vs ds) : Rps K H (cutV vs lo hi) (cutD ds lo hi) := by
  unfold cutV cutD
  rw [t.length]
  exact (t.drop _).take _
def rSlZ (K : Frag) : V → Option Int → Option Int → Hp → VK → Prop := fun x lo hi H Q => rSlS x lo hi H Q ∨ rSlA K x lo hi H Q ∨ rSlL K x lo hi H Q
theorem sl_Z : SlR X (rSlZ X.K) := sl_str.or (sl_tupA.or sl_list)
theorem sl_whole {xs : List D} {lo hi : Option Int} (h : HT.sIx xs.length 0 lo = 0 ∧ HT.sIx xs.length xs.length hi = xs.length) : cutD xs lo hi = xs := by
  unfold cutD
  rw [h.1, h.2]
  simp
theorem slS {Hs H : Hp} {x : V} {d c : D} {lo hi : Option Int} {Q : VK} (ex : Ex Hs H) (rx : Rp K Hs x d) (hg : dSl d lo hi = some c) (k : ∀ v Hs' H', Gr Hs H Hs' H' → Rp K Hs' v c → Q v H') : rSlZ K x lo hi H Q := by
  cases rx with
  | str z =>
    simp only [dSl, Option.ite_none_right_eq_some, Option.some.injEq] at hg
    obtain ⟨hl, hg⟩ := hg
    subst hg
    exact .inl ⟨z, rfl, hl, k _ Hs H (.refl ex) (.str _)⟩
  | tup h t =>
    obtain rfl := Option.some.inj hg
    refine .inr (.inl ⟨_, _, rfl, sqT_ex ex h, fun z => ?_, fun z p hp => ?_⟩)
    · rw [t.length] at z
      rw [sl_whole z] at k
      exact k _ Hs H (.refl ex) (.tup h t)
    · exact k _ _ _ (Gr.new ex hp) (.tup (StT.of upd_same) ((cut_rps t).ex (Gr.new ex hp).s))
  | lst h t =>
    obtain rfl := Option.some.inj hg
    refine .inr (.inr ⟨_, _, rfl, sqL_ex ex h, fun p hp => ?_⟩)
    exact k _ _ _ (Gr.new ex hp) (.lst (SqL.of upd_same) ((cut_rps t).ex (Gr.new ex hp).s))
  | _ => simp [dSl] at hg
end
section
variable {X : Cx} {E : XQ} {ps : List Nat} {a b e : Expr} {pos : Pos} {ma mb m : M D}
theorem je_ix (ha : PE X a (tOf X.K E ps ma)) (hb : PE X b (tOf X.K E ps mb)) (hs : PlainIx b) : PE X (.Subscript a b pos) (tOf X.K E ps (mBin dIx ma mb)) :=
  pe_imp (pe_ix ix_seq ha hb hs) fun _ _ _ h => binS os_ix h
/-- a part of a slice -/
def tOfP (K : Frag) (E : XQ) (ps : List Nat) (m : M (Option Int)) : TO := fun σ H Q => Cf K E ps m σ H fun _ o _ H' _ => Q o H'
def toI : D → Option (Option Int)
  | .int i => some (some i)
  | _ => none
def mPart (m : M D) : M (Option Int) := mBind m fun d => mOpt (toI d)
def mNoPart : M (Option Int) := mPure none
theorem jp_none : PO X none (tOfP X.K E ps mNoPart) := ⟨fun pins s σ H Q I ⟨W, Hs, δ, hp, re, po⟩ => po_none.run pins s σ H Q I (Post.of po re)⟩
theorem jp_some (h : PE X e (tOf X.K E ps m)) : PO X (some e) (tOfP X.K E ps (mPart m)) := ⟨fun pins s σ H Q I ⟨W, Hs, δ, hp, re, po⟩ => (po_some h).run pins s σ H Q I (by
  refine tOf.step hp re po fun x d Hs1 H1 δ1 e1 re1 r1 po1 => ?_
  obtain ⟨c, hc, po3⟩ := Post.opt po1
  cases r1 <;> simp [toI] at hc
  subst hc
  exact ⟨_, rfl, Post.of po3 re1⟩)⟩
def mSl (m : M D) (ml mh : M (Option Int)) : M D := mBind m fun d => mBind ml fun l => mBind mh fun h => mOpt (dSl d l h)
theorem je_slice {lo hi : Option Expr} {ml mh : M (Option Int)} {p2 : Pos} (he : PE X e (tOf X.K E ps m)) (hl : PO X lo (tOfP X.K E ps ml)) (hu : PO X hi (tOfP X.K E ps mh)) : PE X (.Subscript e (.Slice lo hi none p2) pos) (tOf X.K E ps (mSl m ml mh)) :=
  pe_imp (pe_slice sl_Z he hl hu) fun σ H Q ⟨W, Hs, δ, hp, re, po⟩ => by
    refine tOf.step hp re po fun x d Hs1 H1 δ1 e1 re1 r1 po1 => ?_
    refine Cf.step hp re1 po1 fun l Hs2 H2 δ2 e2 re2 po2 => ?_
    refine Cf.step hp re2 po2 fun u Hs3 H3 δ3 e3 re3 po3 => ?_
    obtain ⟨c, hc, po4⟩ := Post.opt po3
    exact slS re3.ex ((r1.ex e2).ex e3) hc fun v Hs' H' g rv => Post.grow po4 re3 g v rv
variable {t1 t2 : M Bool} {rest : List Expr}
def mAndT (t1 t2 : M Bool) : M Bool := mBind t1 fun b => if b then t2 else mPure false
def mOrT (t1 t2 : M Bool) : M Bool := mBind t1 fun b => if b then mPure true else t2
def mNotT (t : M Bool) : M Bool := mBind t fun b => mPure (!b)
theorem jt_not (h : PT X a (tOfT X.K E ps t1)) : PT X (.UnaryOp .Not a pos) (tOfT X.K E ps (mNotT t1)) :=
  pt_imp (pt_not h) fun σ H Q ⟨W, Hs, δ, hp, re, po⟩ => tOfT.step hp re po fun b Hs1 H1 δ1 e1 re1 po1 => Post.of po1 re1
theorem jw_and1 (h : PT X a (tOfT X.K E ps t1)) : PW X (.BoolOp .And [a] pos) (tOfT X.K E ps t1) := pw_and1 h
theorem jw_or1 (h : PT X a (tOfT X.K E ps t1)) : PW X (.BoolOp .Or [a] pos) (tOfT X.K E ps t1) := pw_or1 h
theorem jw_and (h : PT X a (tOfT X.K E ps t1)) (h2 : PW X (.BoolOp .And (b :: rest) pos) (tOfT X.K E ps t2)) : PW X (.BoolOp .And (a :: b :: rest) pos) (tOfT X.K E ps (mAndT t1 t2)) :=
  pw_imp (pw_and h h2) fun σ H Q ⟨W, Hs, δ, hp, re, po⟩ => tOfT.step hp re po fun b Hs1 H1 δ1 e1 re1 po1 => by
    cases b with
    | true => exact Cf.last hp re1 po1
    | false => exact Post.of po1 re1
theorem jw_or (h : PT X a (tOfT X.K E ps t1)) (h2 : PW X (.BoolOp .Or (b :: rest) pos) (tOfT X.K E ps t2)) : PW X (.BoolOp .Or (a :: b :: rest) pos) (tOfT X.K E ps (mOrT t1 t2)) :=
  pw_imp (pw_or h h2) fun σ H Q ⟨W, Hs, δ, hp, re, po⟩ => tOfT.step hp re po fun b Hs1 H1 δ1 e1 re1 po1 => by
    cases b with
    | true => exact Post.of po1 re1
    | false => exact Cf.last hp re1 po1
/-- .. as values, all True or False but the last -/
def mAndV (m1 m2 : M D) : M D := mBind (mTest m1) fun b => if b then m2 else mPure (.bool false)
def mOrV (m1 m2 : M D) : M D := mBind (mTest m1) fun b => if b then mPure (.bool true) else m2
def mNotV (m : M D) : M D := mBind (mTest m) fun b => mPure (.bool (!b))
def mIfE (t : M Bool) (m1 m2 : M D) : M D := mBind t fun b => if b then m1 else m2
theorem je_if {c : Expr} (hc : PT X c (tOfT X.K E ps t1)) (h : PE X a (tOf X.K E ps ma)) (h2 : PE X b (tOf X.K E ps mb)) : PE X (.IfExp c a b pos) (tOf X.K E ps (mIfE t1 ma mb)) :=
  pe_imp (pe_ifExp hc h h2) fun σ H Q ⟨W, Hs, δ, hp, re, po⟩ => tOfT.step hp re po fun b Hs1 H1 δ1 e1 re1 po1 => by
    cases b with
    | true => exact Cf.last hp re1 po1
    | false => exact Cf.last hp re1 po1
/-- -n -/
def dNeg : D → Option D
  | .int i => some (.int (-i))
  | _ => none
def mNeg (m : M D) : M D := mBind m fun d => mOpt (dNeg d)
variable {c : Expr} {mc : M D}
theorem jt_chain {op op' : CmpOp} {r r' : R2} {g g' : D → D → Option D} (ho : OpR X (compareOp op) r) (ho' : OpR X (compareOp op') r') (hr : OpB X.K r g) (hr' : OpS X.K r' g') (ha : PE X a (tOf X.K E ps ma)) (hb : PE X b (tOf X.K E ps mb)) (hc : PE X c (tOf X.K E ps mc))
    (hm : lastMarks [op, op'] [b, c] = false := by with_unfolding_all rfl) : PT X (.Compare a [op, op'] [b, c] pos) (tOfT X.K E ps (mTest (mChain g g' ma mb mc))) :=
  pt_imp (pt_chain ho ho' ha hb hc hm) fun _ _ _ h => testS (fun _ _ _ z => chainS hr hr' z) h
end
end Dn
namespace Dn
open PySem PySem.Spec PyProof.Rows L2
inductive AM where
  | e (m : M D)
  | o (i : Nat)
def mOwn (i : Nat) : M (List D) := fun δ => match δ[i]? with
  | some (.ow xs) => .ok xs δ
  | _ => .bad
def evA : List AM → M (List Ag)
  | [] => mPure []
  | .e m :: as => mBind m fun d => mBind (evA as) fun gs => mPure (.sh d :: gs)
  | .o i :: as => mBind (mOwn i) fun _ => mBind (evA as) fun gs => mPure (.ow i :: gs)
def shs : List Ag → Option (List D)
  | [] => some []
  | .sh d :: gs => (shs gs).map (d :: ·)
  | .ow _ :: _ => none
section
variable {K : Frag} {W : Wd} {Hs H H' : Hp} {σ : L2.St} {δ : Env} {E : XQ} {ps : List Nat}
theorem shs_rps : ∀ {vs : List V} {gs : List Ag} {ds : List D}, AgR K Hs σ vs gs → shs gs = some ds → Rps K Hs vs ds
  | [], [], ds, _, h => by obtain rfl := Option.some.inj h; exact .nil
  | [], _ :: _, _, h, _ => h.elim
  | _ :: _, [], _, h, _ => h.elim
  | v :: vs, .sh d :: gs, ds, h, q => by
    unfold shs at q
    cases z : shs gs with
    | none => rw [z] at q; simp at q
    | some es =>
      rw [z] at q
      have e : d :: es = ds := by simpa using q
      subst e
      exact .cons h.1 (shs_rps h.2 z)
  | _ :: _, .ow _ :: _, _, _, q => by simp [shs] at q
/-- new things that no name reaches -/
theorem RE.newH (r : RE K W Hs H σ δ) (e : Ex H H') : RE K W Hs H' σ δ :=
  r.grow ⟨Ex.refl _, e, r.ex.trans e, fun _ _ => rfl⟩
/-- a fresh list becomes shared data -/
theorem RE.freeze {a : Addr} {xs : List D} (r : RE K W Hs H σ δ) (f : FrO K W Hs H σ δ a xs) : ∃ Hs', Ex Hs Hs' ∧ RE K W Hs' H σ δ ∧ Rp K Hs' (.ref a) (.list xs) := by
  obtain ⟨vs, h1, h2⟩ := f.at_
  have e : Ex Hs (upd Hs a (.lst vs)) := ex_new f.hs
  refine ⟨upd Hs a (.lst vs), e, ?_, .lst (SqL.of upd_same) (h2.ex e)⟩
  exact {
    ex := fun b o q => by
      by_cases hb : b = a
      · subst hb; rw [upd_same] at q; cases q; exact h1
      · rw [upd_ne hb] at q; exact r.ex b o q
    fg := fun b o q => by
      have hb : b ≠ a := fun z => by rw [z, f.g] at q; cases q
      rw [upd_ne hb]; exact r.fg b o q
    len := r.len
    sh := fun i d q => by
      obtain ⟨v, q1, q2⟩ := r.sh i d q
      exact ⟨v, q1, q2.ex e⟩
    ow := fun i s q w => by
      obtain ⟨b, o, q1, q2, q3, q4, q5⟩ := r.ow i s q w
      have hb : b ≠ a := fun z => f.ne i s q w (z ▸ q1)
      exact ⟨b, o, q1, q2, q3.ex e, by rw [upd_ne hb]; exact q4, q5⟩
    ap := r.ap
    pin := r.pin }
end
section
variable {X : Cx} {E : XQ} {ps : List Nat} {a b e o : Expr} {es : List Expr} {pos : Pos} {ma mb m : M D} {as : List AM}
theorem ja_nil : PA X [] (tOfA X.K E ps (evA [])) := pa_imp pa_nil fun σ H Q ⟨W, Hs, δ, hp, re, po⟩ => Post.of po re [] trivial
def CallS (K : Frag) (r : List V → Hp → VK → Prop) (g : List D → Option D) : Prop := ∀ Hs H vs ds c (Q : VK), Ex Hs H → Rps K Hs vs ds → g ds = some c → (∀ v Hs' H', Gr Hs H Hs' H' → Rp K Hs' v c → Q v H') → r vs H Q
def mCallB (g : List D → Option D) (as : List AM) : M D := mBind (evA as) fun gs => mOpt ((shs gs).bind g)
theorem callS {r : List V → Hp → VK → Prop} {g : List D → Option D} (hr : CallS X.K r g) {σ : L2.St} {H : Hp} {Q : VK} (h : tOf X.K E ps (mCallB g as) σ H Q) : tCB r (tOfA X.K E ps (evA as)) σ H Q := by
  obtain ⟨W, Hs, δ, hp, re, po⟩ := h
  refine tOfA.step hp re po fun vs gs Hs1 H1 δ1 e1 re1 r1 po1 => ?_
  obtain ⟨c, hc, po2⟩ := Post.opt po1
  obtain ⟨ds, h1, h2⟩ := Option.bind_eq_some_iff.mp hc
  exact hr Hs1 H1 vs ds c Q re1.ex (shs_rps r1 h1) h2 fun v Hs' H' g rv => Post.grow po2 re1 g v rv
theorem je_callB {x : Str} {p : Pos} {id : String} {r : List V → Hp → VK → Prop} {g : List D → Option D} (hc : CallR X (.builtin id) r) (hr : CallS X.K r g) (hg : Gl X x) (hm : X.mg x = none) (hv : bootBuiltins x = some (.builtin id)) (ha : PA X (e :: es) (tOfA X.K E ps (evA as))) (hn : x ≠ "__name__" := by decide) (hdb : (x == ("__debug__" : Str)) = false := by decide)
    (he : starEach (e :: es) X.env = (false, eval e X.env) :: starEach es X.env := by rfl) (hpl : (backTo pos (starEach es X.env)).any (·.1) = false := by rfl) : PE X (.Call (.Name x p) (e :: es) [] pos) (tOf X.K E ps (mCallB g as)) :=
  pe_imp (pe_callB hc hg hm hv ha hn hdb he hpl) fun _ _ _ h => callS hr h
theorem je_callTy {x : Str} {p : Pos} {T : String} {r : List V → Hp → VK → Prop} {g : List D → Option D} (hc : CallR X (.type T) r) (hr : CallS X.K r g) (hg : Gl X x) (hm : X.mg x = none) (hv : bootBuiltins x = some (.type T)) (ha : PA X (e :: es) (tOfA X.K E ps (evA as))) (hn : x ≠ "__name__" := by decide) (hdb : (x == ("__debug__" : Str)) = false := by decide)
    (he : starEach (e :: es) X.env = (false, eval e X.env) :: starEach es X.env := by rfl) (hpl : (backTo pos (starEach es X.env)).any (·.1) = false := by rfl) : PE X (.Call (.Name x p) (e :: es) [] pos) (tOf X.K E ps (mCallB g as)) :=
  pe_imp (pe_callTy hc hg hm hv ha hn hdb he hpl) fun _ _ _ h => callS hr h
theorem flat_free {K : Frag} {H H' : Hp} {v : V} {d : D} (r : Rp K H v d) (h : flatD d = true) : Rp K H' v d := by
  cases r with
  | non => exact .non
  | bl b => exact .bl b
  | int i => exact .int i
  | str x => exact .str x
  | _ => simp [flatD] at h
theorem ex_upd {Hs H : Hp} {q : Addr} {u : HO} (e : Ex Hs H) (h : H q = some u) : Ex (upd Hs q u) H := fun c w z => by
  by_cases hc : c = q
  · subst hc; rw [upd_same] at z; cases z; exact h
  · rw [upd_ne hc] at z; exact e c w z
/-- own things lent for a while: what is handed back is flat, so nothing of them stays -/
theorem lent {K : Frag} {W : Wd} {Hs H : Hp} {σ : L2.St} {δ : Env} {i : Nat} {xs : List D} (re : RE K W Hs H σ δ) (hx : δ[i]? = some (Sl.ow xs)) :
    ∃ (q : Addr) (Hb : Hp), σ[i]? = some (some (V.ref q)) ∧ Ex Hs Hb ∧ Ex Hb H ∧ Rp K Hb (.ref q) (.list xs) ∧ H q ≠ none ∧ tyV K "list" (.ref q) H ∧ ∃ vs, H q = some (.lst vs) ∧ Rps K Hs vs xs := by
  obtain ⟨q, u, h1, h2, h3, h4, h5⟩ := re.ow i _ hx rfl
  cases u with
  | lst vs =>
    have e : Ex Hs (upd Hs q (.lst vs)) := ex_new h4
    exact ⟨q, upd Hs q (.lst vs), h1, e, ex_upd re.ex h2, .lst (SqL.of upd_same) (Rps.ex e h3), by rw [h2]; simp, .inl ⟨rfl, vs, .inl (.inl h2)⟩, vs, h2, h3⟩
  | _ => exact h3.elim
def bLen : List D → Option D
  | [.str z] => if z.length ≤ sizeLine then some (.int z.length) else none
  | [.list xs] => some (.int xs.length)
  | [.tuple xs] => some (.int xs.length)
  | _ => none
def rLenA (K : Frag) : List V → Hp → VK → Prop := fun xs H Q => (∃ p ys, xs = [.ref p] ∧ (SqL K H p ys ∨ SqT K H p ys) ∧ Q (.int ys.length) H) ∨ ∃ z, xs = [.str z] ∧ z.length ≤ sizeLine ∧ Q (.int z.length) H
theorem call_lenA : CallR X (.builtin "len") (rLenA X.K) := call_len_seq.or call_len_str
theorem cs_len {K : Frag} : CallS K (rLenA K) bLen := fun Hs H vs ds c Q ex t hg k => by
  cases t with
  | nil => simp [bLen] at hg
  | cons r t =>
    cases t with
    | cons _ _ => cases r <;> simp [bLen] at hg
    | nil =>
      cases r with
      | str z =>
        simp only [bLen, Option.ite_none_right_eq_some, Option.some.injEq] at hg
        obtain ⟨hl, hg⟩ := hg
        subst hg
        exact .inr ⟨z, rfl, hl, k _ Hs H (.refl ex) (.int _)⟩
      | lst h t =>
        obtain rfl := Option.some.inj hg
        exact .inl ⟨_, _, rfl, .inl (sqL_ex ex h), by rw [t.length]; exact k _ Hs H (.refl ex) (.int _)⟩
      | tup h t =>
        obtain rfl := Option.some.inj hg
        exact .inl ⟨_, _, rfl, .inr (sqT_ex ex h), by rw [t.length]; exact k _ Hs H (.refl ex) (.int _)⟩
      | _ => simp [bLen] at hg
def bInt : List D → Option D
  | [.int i] => some (.int i)
  | [.bool b] => some (.int (if b then 1 else 0))
  | _ => none
theorem cs_int {K : Frag} : CallS K (fun xs H Q => (∃ i, xs = [.int i] ∧ Q (.int i) H) ∨ ∃ k, xs = [.bl k] ∧ Q (.int (if k then 1 else 0)) H) bInt := fun Hs H vs ds c Q ex t hg k => by
  cases t with
  | nil => simp [bInt] at hg
  | cons r t =>
    cases t with
    | cons _ _ => cases r <;> simp [bInt] at hg
    | nil =>
      cases r with
      | int i =>
        obtain rfl := Option.some.inj hg
        exact .inl ⟨i, rfl, k _ Hs H (.refl ex) (.int _)⟩
      | bl b =>
        obtain rfl := Option.some.inj hg
        exact .inr ⟨b, rfl, k _ Hs H (.refl ex) (.int _)⟩
      | _ => simp [bInt] at hg
def bII (f : Int → Int → Int) : List D → Option D
  | [.int i, .int j] => some (.int (f i j))
  | _ => none
theorem cs_II {K : Frag} {f : Int → Int → Int} : CallS K (fun xs H Q => ∃ i j, xs = [.int i, .int j] ∧ Q (.int (f i j)) H) (bII f) := fun Hs H vs ds c Q ex t hg k => by
  cases t with
  | nil => simp [bII] at hg
  | cons r t =>
    cases t with
    | nil => cases r <;> simp [bII] at hg
    | cons r' t =>
      cases t with
      | cons _ _ => cases r <;> cases r' <;> simp [bII] at hg
      | nil =>
        cases r <;> cases r' <;> simp [bII] at hg
        subst hg
        exact ⟨_, _, rfl, k _ Hs H (.refl ex) (.int _)⟩
def bTuple : List D → Option D
  | [.list xs] => some (.tuple xs)
  | [.tuple xs] => some (.tuple xs)
  | _ => none
theorem cs_tuple {K : Frag} : CallS K (fun xs H Q => ∃ p ys, xs = [.ref p] ∧ ((SqL K H p ys ∧ ∀ l, H l = none → Q (.ref l) (upd H l (.tup ys))) ∨ (SqT K H p ys ∧ Q (.ref p) H))) bTuple := fun Hs H vs ds c Q ex t hg k => by
  cases t with
  | nil => simp [bTuple] at hg
  | cons r t =>
    cases t with
    | cons _ _ => cases r <;> simp [bTuple] at hg
    | nil =>
      cases r with
      | lst h t =>
        obtain rfl := Option.some.inj hg
        exact ⟨_, _, rfl, .inl ⟨sqL_ex ex h, fun p hp => k _ _ _ (Gr.new ex hp) (.tup (StT.of upd_same) (t.ex (Gr.new ex hp).s))⟩⟩
      | tup h t =>
        obtain rfl := Option.some.inj hg
        exact ⟨_, _, rfl, .inr ⟨sqT_ex ex h, k _ Hs H (.refl ex) (.tup h t)⟩⟩
      | _ => simp [bTuple] at hg
def bList : List D → Option D
  | [.list xs] => some (.list xs)
  | [.tuple xs] => some (.list xs)
  | _ => none
theorem cs_list {K : Frag} : CallS K (fun xs H Q => ∃ p ys, xs = [.ref p] ∧ (SqL K H p ys ∨ SqT K H p ys) ∧ ∀ l, H l = none → Q (.ref l) (upd H l (.lst ys))) bList := fun Hs H vs ds c Q ex t hg k => by
  cases t with
  | nil => simp [bList] at hg
  | cons r t =>
    cases t with
    | cons _ _ => cases r <;> simp [bList] at hg
    | nil =>
      cases r with
      | lst h t =>
        obtain rfl := Option.some.inj hg
        exact ⟨_, _, rfl, .inl (sqL_ex ex h), fun p hp => k _ _ _ (Gr.new ex hp) (.lst (SqL.of upd_same) (t.ex (Gr.new ex hp).s))⟩
      | tup h t =>
        obtain rfl := Option.some.inj hg
        exact ⟨_, _, rfl, .inr (sqT_ex ex h), fun p hp => k _ _ _ (Gr.new ex hp) (.lst (SqL.of upd_same) (t.ex (Gr.new ex hp).s))⟩
      | _ => simp [bList] at hg
/-- the truths of a list -/
def toBs : List D → Option (List Bool)
  | [] => some []
  | .bool b :: r => (toBs r).map (b :: ·)
  | _ :: _ => none
theorem toBs_eq : ∀ {ds : List D} {bs : List Bool}, toBs ds = some bs → ds = bs.map PyData.bool
  | [], bs, h => by obtain rfl := Option.some.inj h; rfl
  | d :: r, bs, h => by
    cases d with
    | bool b =>
      unfold toBs at h
      cases z : toBs r with
      | none => rw [z] at h; simp at h
      | some cs =>
        rw [z] at h
        have e : b :: cs = bs := by simpa using h
        subst e
        rw [List.map_cons, toBs_eq z]
    | _ => simp [toBs] at h
def bBools (f : List Bool → Bool) : List D → Option D
  | [.list xs] => (toBs xs).map fun bs => .bool (f bs)
  | _ => none
theorem cs_bools {K : Frag} {f : List Bool → Bool} : CallS K (fun vs H Q => ∃ (a : Addr) (bs : List Bool), vs = [V.ref a] ∧ SqL K H a (bs.map V.bl) ∧ Q (.bl (f bs)) H) (bBools f) := fun Hs H vs ds c Q ex t hg k => by
  cases t with
  | nil => simp [bBools] at hg
  | cons r t =>
    cases t with
    | cons _ _ => cases r <;> simp [bBools] at hg
    | nil =>
      cases r with
      | lst h t =>
        simp only [bBools, Option.map_eq_some_iff] at hg
        obtain ⟨bs, h1, h2⟩ := hg
        subst h2
        have e := toBs_eq h1
        subst e
        have e2 := t.bls
        subst e2
        exact ⟨_, bs, rfl, sqL_ex ex h, k _ Hs H (.refl ex) (.bl _)⟩
      | _ => simp [bBools] at hg
def toIs : List D → Option (List Int)
  | [] => some []
  | .int b :: r => (toIs r).map (b :: ·)
  | _ :: _ => none
theorem toIs_eq : ∀ {ds : List D} {bs : List Int}, toIs ds = some bs → ds = bs.map PyData.int
  | [], bs, h => by obtain rfl := Option.some.inj h; rfl
  | d :: r, bs, h => by
    cases d with
    | int b =>
      unfold toIs at h
      cases z : toIs r with
      | none => rw [z] at h; simp at h
      | some cs =>
        rw [z] at h
        have e : b :: cs = bs := by simpa using h
        subst e
        rw [List.map_cons, toIs_eq z]
    | _ => simp [toIs] at h
def toSs : List D → Option (List Str)
  | [] => some []
  | .str b :: r => (toSs r).map (b :: ·)
  | _ :: _ => none
theorem toSs_eq : ∀ {ds : List D} {bs : List Str}, toSs ds = some bs → ds = bs.map PyData.str
  | [], bs, h => by obtain rfl := Option.some.inj h; rfl
  | d :: r, bs, h => by
    cases d with
    | str b =>
      unfold toSs at h
      cases z : toSs r with
      | none => rw [z] at h; simp at h
      | some cs =>
        rw [z] at h
        have e : b :: cs = bs := by simpa using h
        subst e
        rw [List.map_cons, toSs_eq z]
    | _ => simp [toSs] at h
def bSum : List D → Option D
  | [.list xs] => (toIs xs).map fun ns => .int ns.sum
  | _ => none
theorem cs_sum {K : Frag} : CallS K (rSum K) bSum := fun Hs H vs ds c Q ex t hg k => by
  cases t with
  | nil => simp [bSum] at hg
  | cons r t =>
    cases t with
    | cons _ _ => cases r <;> simp [bSum] at hg
    | nil =>
      cases r with
      | lst h t =>
        simp only [bSum, Option.map_eq_some_iff] at hg
        obtain ⟨bs, h1, h2⟩ := hg
        subst h2
        have e := toIs_eq h1
        subst e
        have e2 := t.ints
        subst e2
        exact ⟨_, bs, rfl, sqL_ex ex h, k _ Hs H (.refl ex) (.int _)⟩
      | _ => simp [bSum] at hg
def tyD : D → String
  | .none => "NoneType"
  | .bool _ => "bool"
  | .int _ => "int"
  | .str _ => "str"
  | .list _ => "list"
  | .tuple _ => "tuple"
  | .dict _ => "dict"
theorem ty_of {K : Frag} {Hs H : Hp} {v : V} {d : D} (ex : Ex Hs H) (r : Rp K Hs v d) : TyX K H v (.type (tyD d)) := by
  cases r with
  | non => exact .base .non
  | bl b => exact .base (.bl b)
  | int i => exact .base (.int i)
  | str x => exact .base (.str x)
  | lst h t =>
    rcases sqL_ex ex h with (h | ⟨o, h⟩) | ⟨o, its, n, h1, h2, _⟩
    · exact .base (.lst h)
    · exact .base (.frz h)
    · exact .kList h1 h2
  | tup h t =>
    rcases sqT_ex ex h with (h | ⟨o, h⟩) | ⟨o, its, n, h1, h2, _⟩
    · exact .base (.tup h)
    · exact .fTuple h
    · exact .kTuple h1 h2
def mIsi (T : String) (m : M D) : M D := mBind m fun d => mOpt ((kitB (tyD d) T).map PyData.bool)
theorem je_isi {T : Str} {T' : String} {p p' : Pos} (h : PE X e (tOf X.K E ps m)) (hg : Gl X "isinstance") (hm : X.mg "isinstance" = none) (hgT : Gl X T) (hmT : X.mg T = none) (hvT : bootBuiltins T = some (.type T')) (hnT : T ≠ "__name__" := by decide) (hdT : (T == ("__debug__" : Str)) = false := by decide)
    (he : starEach (e :: [.Name T p']) X.env = (false, eval e X.env) :: starEach [.Name T p'] X.env := by rfl) (he2 : starEach [.Name T p'] X.env = (false, eval (.Name T p') X.env) :: starEach [] X.env := by rfl) (hpl : (backTo pos (starEach [.Name T p'] X.env)).any (·.1) = false := by rfl) :
    PE X (.Call (.Name "isinstance" p) [e, .Name T p'] [] pos) (tOf X.K E ps (mIsi T' m)) :=
  pe_imp (pe_callB call_isi hg hm (by decide +kernel) (pa_cons h (pa_cons (pe_bltn (v := .ty T') hgT hmT hvT rfl hnT hdT) pa_nil he2) he) (by decide) (by decide) he hpl) fun σ H Q ⟨W, Hs, δ, hp, re, po⟩ => by
    refine tOf.step hp re po fun v d Hs1 H1 δ1 e1 re1 r1 po1 => ?_
    obtain ⟨c, hc, po2⟩ := Post.opt po1
    obtain ⟨b, hb, hc⟩ := Option.map_eq_some_iff.mp hc
    subst hc
    exact ⟨v, .ty T', _, _, b, rfl, .ty T', ty_of re1.ex r1, kit_ty hb, Post.of po2 re1 _ (.bl b)⟩
def MtS (K : Frag) (r : V → List V → Hp → VK → Prop) (g : Str → List D → Option D) : Prop := ∀ Hs H z vs ds c (Q : VK), Ex Hs H → Rps K Hs vs ds → g z ds = some c → (∀ v Hs' H', Gr Hs H Hs' H' → Rp K Hs' v c → Q v H') → r (.str z) vs H Q
def toS : D → Option Str
  | .str z => some z
  | _ => none
def mM1 (g : Str → List D → Option D) (mo m : M D) : M D := mBind mo fun d => mBind (mOpt (toS d)) fun z => mBind m fun e => mOpt (g z [e])
theorem optB {K : Frag} {W : Wd} {Hs : Hp} {σ : L2.St} {δ : Env} {α β : Type} {oa : Option α} {f : α → M β} {QQ : β → Hp → Hp → Env → Prop} (po : Post K E W Hs σ (mBind (mOpt oa) f δ) QQ) : ∃ a, oa = some a ∧ Post K E W Hs σ (f a δ) QQ := by
  cases oa with
  | none => exact po.elim
  | some a => exact ⟨a, rfl, po⟩
theorem je_m1 {id : String} {name : Str} {apos pos : Pos} {r : V → List V → Hp → VK → Prop} {g : Str → List D → Option D} (slot : Slot "str" name id) (ty : typeOf (.builtin id) = pure (.type "method_descriptor")) (rule : MtR X id r) (hr : MtS X.K r g) (ho : PE X o (tOf X.K E ps ma)) (he : PE X e (tOf X.K E ps m))
    (hs : starEach [e] X.env = [(false, eval e X.env)] := by rfl) (hbase : attributeBase o name X.env (eval o X.env) = eval o X.env := by rfl) (hline : (apos.endLine == pos.line) = true := by rfl) : PE X (.Call (.Attribute o name apos) [e] [] pos) (tOf X.K E ps (mM1 g ma m)) :=
  pe_imp (pe_m1 slot ty rule ho he hs hbase hline) fun σ H Q ⟨W, Hs, δ, hp, re, po⟩ => by
    refine tOf.step hp re po fun v d Hs1 H1 δ1 e1 re1 r1 po1 => ?_
    obtain ⟨z, hz, po2⟩ := optB po1
    cases r1 <;> simp [toS] at hz
    subst hz
    refine ⟨⟨_, rfl⟩, tOf.step hp re1 po2 fun w c Hs2 H2 δ2 e2 re2 r2 po3 => ?_⟩
    obtain ⟨c', hc, po4⟩ := Post.opt po3
    exact hr Hs2 H2 _ _ _ c' Q re2.ex (.cons r2 .nil) hc fun v Hs' H' g rv => Post.grow po4 re2 g v rv
def sSplit (z : Str) : List D → Option D
  | [.str b] => if (b.length == 0) = false ∧ z.length + 2 ≤ sizeLine then some (.list ((Txt.split z b).map PyData.str)) else none
  | _ => none
theorem ms_split {K : Frag} : MtS K (fun x xs H Q => ∃ a b, x = .str a ∧ xs = [.str b] ∧ (b.length == 0) = false ∧ a.length + 2 ≤ sizeLine ∧ rNewStrs (Txt.split a b) H Q) sSplit := fun Hs H z vs ds c Q ex t hg k => by
  cases t with
  | nil => simp [sSplit] at hg
  | cons r t =>
    cases t with
    | cons _ _ => cases r <;> simp [sSplit] at hg
    | nil =>
      cases r with
      | str b =>
        simp only [sSplit, Option.ite_none_right_eq_some, Option.some.injEq] at hg
        obtain ⟨⟨h1, h2⟩, hg⟩ := hg
        subst hg
        exact ⟨z, b, rfl, rfl, h1, h2, fun p hp => k _ _ _ (Gr.new ex hp) (.lst (SqL.of upd_same) (Rps.of_strs _))⟩
      | _ => simp [sSplit] at hg
def joinN (z : Str) (ys : List Str) : Nat := (ys.map (·.length)).sum + ys.length * z.length
def sJoin (z : Str) : List D → Option D
  | [.list xs] => (toSs xs).bind fun ys => if joinN z ys ≤ 16777216 then some (.str (Txt.join z ys)) else none
  | [.tuple xs] => (toSs xs).bind fun ys => if joinN z ys ≤ 16777216 then some (.str (Txt.join z ys)) else none
  | _ => none
theorem ms_join {K : Frag} : MtS K (fun x xs H Q => ∃ a p, ∃ ys : List Str, x = .str a ∧ xs = [.ref p] ∧ (SqL K H p (ys.map V.str) ∨ SqT K H p (ys.map V.str)) ∧ (ys.map (·.length)).sum + ys.length * a.length ≤ 16777216 ∧ Q (.str (Txt.join a ys)) H) sJoin := fun Hs H z vs ds c Q ex t hg k => by
  cases t with
  | nil => simp [sJoin] at hg
  | cons r t =>
    cases t with
    | cons _ _ => cases r <;> simp [sJoin] at hg
    | nil =>
      have fin : ∀ {xs : List D}, ((toSs xs).bind fun ys => if joinN z ys ≤ 16777216 then some (.str (Txt.join z ys)) else none) = some c → ∃ ys, xs = ys.map PyData.str ∧ (ys.map (·.length)).sum + ys.length * z.length ≤ 16777216 ∧ c = .str (Txt.join z ys) := fun {xs} h => by
        obtain ⟨ys, h1, h2⟩ := Option.bind_eq_some_iff.mp h
        simp only [Option.ite_none_right_eq_some, Option.some.injEq] at h2
        exact ⟨ys, toSs_eq h1, h2.1, h2.2.symm⟩
      cases r with
      | lst h t =>
        obtain ⟨ys, e1, e2, e3⟩ := fin hg
        subst e1; subst e3
        have e4 := t.strs
        subst e4
        exact ⟨z, _, ys, rfl, rfl, .inl (sqL_ex ex h), e2, k _ Hs H (.refl ex) (.str _)⟩
      | tup h t =>
        obtain ⟨ys, e1, e2, e3⟩ := fin hg
        subst e1; subst e3
        have e4 := t.strs
        subst e4
        exact ⟨z, _, ys, rfl, rfl, .inr (sqT_ex ex h), e2, k _ Hs H (.refl ex) (.str _)⟩
      | _ => simp [sJoin] at hg
def mShs (as : List AM) : M (List D) := mBind (evA as) fun gs => mOpt ((shs gs).filter fun ds => decide (ds.length ≤ sizeLine))
def mTup (as : List AM) : M D := mBind (mShs as) fun ds => mPure (.tuple ds)
def mLst (as : List AM) : M D := mBind (mShs as) fun ds => mPure (.list ds)
theorem mShs_step {W : Wd} {Hs H : Hp} {σ : L2.St} {δ : Env} {β : Type} {f : List D → M β} {QQ : β → Hp → Hp → Env → Prop} {K : Frag} {R : List V → Hp → Prop} (hp : W.pn.map (·.1) = ps) (re : RE K W Hs H σ δ) (po : Post K E W Hs σ (mBind (mShs as) f δ) QQ)
    (k : ∀ vs ds Hs1 H1 δ1, Ex Hs Hs1 → RE K W Hs1 H1 σ δ1 → Rps K Hs1 vs ds → vs.length ≤ sizeLine → Post K E W Hs1 σ (f ds δ1) QQ → R vs H1) : tOfA K E ps (evA as) σ H R := by
  have po' : Post K E W Hs σ (mBind (evA as) (fun gs => mBind (mOpt ((shs gs).filter fun ds => decide (ds.length ≤ sizeLine))) f) δ) QQ := by
    have e : mBind (mShs as) f δ = mBind (evA as) (fun gs => mBind (mOpt ((shs gs).filter fun ds => decide (ds.length ≤ sizeLine))) f) δ := by
      unfold mShs mBind
      cases evA as δ <;> rfl
    rw [← e]; exact po
  refine tOfA.step hp re po' fun vs gs Hs1 H1 δ1 e1 re1 r1 po1 => ?_
  obtain ⟨ds, hc, po2⟩ := optB po1
  obtain ⟨h1, h2⟩ := Option.filter_eq_some_iff.mp hc
  have t := shs_rps r1 h1
  exact k vs ds Hs1 H1 δ1 e1 re1 t (by rw [t.length]; exact of_decide_eq_true h2) po2
theorem je_tup {x1} (h : PA X es (tOfA X.K E ps (evA as))) : PE X (.Tuple es x1 pos) (tOf X.K E ps (mTup as)) :=
  pe_imp (pe_tup h) fun σ H Q ⟨W, Hs, δ, hp, re, po⟩ => mShs_step hp re po fun vs ds Hs1 H1 δ1 e1 re1 t hl po1 => ⟨hl, fun p hpn =>
    Post.grow po1 re1 (Gr.new re1.ex hpn) _ (.tup (StT.of upd_same) (t.ex (Gr.new re1.ex hpn).s))⟩
theorem je_lst (h : PA X es (tOfA X.K E ps (evA as))) : PE X (.List es pos) (tOf X.K E ps (mLst as)) :=
  pe_imp (pe_lst h) fun σ H Q ⟨W, Hs, δ, hp, re, po⟩ => mShs_step hp re po fun vs ds Hs1 H1 δ1 e1 re1 t hl po1 => ⟨hl, fun p hpn =>
    Post.grow po1 re1 (Gr.new re1.ex hpn) _ (.lst (SqL.of upd_same) (t.ex (Gr.new re1.ex hpn).s))⟩
theorem jo_lst (h : PA X es (tOfA X.K E ps (evA as))) : PE X (.List es pos) (tOfO X.K E ps (mShs as)) :=
  pe_imp (pe_lst h) fun σ H Q ⟨W, Hs, δ, hp, re, po⟩ => by
    have po' : Post X.K E W Hs σ (mBind (mShs as) mPure δ) fun xs Hs' H' δ' => ∀ a, FrO X.K W Hs' H' σ δ' a xs → Q (.ref a) H' := by
      have e : mBind (mShs as) mPure δ = mShs as δ := by unfold mBind mPure; cases mShs as δ <;> rfl
      rw [e]; exact po
    refine mShs_step hp re po' fun vs ds Hs1 H1 δ1 e1 re1 t hl po1 => ⟨hl, fun p hpn => ?_⟩
    have en : Ex H1 (upd H1 p (.lst vs)) := ex_new hpn
    refine Post.of po1 (re1.newH en) p ⟨⟨vs, upd_same, t⟩, ex_none re1.ex hpn, ?_, fun i s q w z => ?_⟩
    · cases q : W.G p with
      | none => rfl
      | some u => have := (re1.fg p u q).1; rw [hpn] at this; cases this
    · obtain ⟨a, u, h1, h2, _⟩ := re1.ow i s q w
      rw [h1] at z
      cases z
      rw [hpn] at h2; cases h2
end
end Dn
namespace Dn
open PySem PySem.Spec PyProof.Rows L2
inductive Fl where
  | nx
  | rt (s : Sl)
  | bk
  | ct
def FlOk (K : Frag) (W : Wd) (B : Ends) (fl : Fl) (σ : L2.St) (Hs H : Hp) (δ : Env) : Prop := match fl with
  | .nx => B.nx σ H
  | .bk => B.bk σ H
  | .ct => B.ct σ H
  | .rt (.sh d) => ∀ v, Rp K Hs v d → B.rt v H
  | .rt (.ow xs) => ∀ a, FrO K W Hs H σ δ a xs → B.rt (.ref a) H
  | .rt .no => False
def PostS (K : Frag) (E : XQ) (W : Wd) (Hs : Hp) (r : Res Fl) (B : Ends) (b : Wd → Fl → L2.St → Hp → Hp → Env → Prop) : Prop := match r with
  | .ok fl δ' => ∀ σ' Hs' H', Ex Hs Hs' → RE K W Hs' H' σ' δ' → b W fl σ' Hs' H' δ'
  | .exc x δ' => ∀ σ' Hs' H', Ex Hs Hs' → RE K W Hs' H' σ' δ' → E x σ' H'
  | .bad => False
abbrev PostF (K : Frag) (E : XQ) (W : Wd) (Hs : Hp) (r : Res Fl) (B : Ends) : Prop := PostS K E W Hs r B fun W fl σ' Hs' H' δ' => FlOk K W B fl σ' Hs' H' δ'
theorem PostS.ex {K : Frag} {E : XQ} {W : Wd} {Hs Hs1 : Hp} {r : Res Fl} {B : Ends} {b : Wd → Fl → L2.St → Hp → Hp → Env → Prop} (h : PostS K E W Hs r B b) (e : Ex Hs Hs1) : PostS K E W Hs1 r B b := by
  cases r with
  | ok a δ' => exact fun σ' Hs' H' e' r => h σ' Hs' H' (e.trans e') r
  | exc x δ' => exact fun σ' Hs' H' e' r => h σ' Hs' H' (e.trans e') r
  | bad => exact h
def tOfS (K : Frag) (E : XQ) (ps : List Nat) (m : M Fl) : TS := fun B σ H => ∃ (W : Wd) (Hs : Hp) (δ : Env), W.pn.map (·.1) = ps ∧ RE K W Hs H σ δ ∧ PostF K E W Hs (m δ) B
section
variable {K : Frag} {E : XQ} {ps : List Nat} {W : Wd} {Hs H : Hp} {σ : L2.St} {δ : Env} {B : Ends}
theorem Cf.stepS {α : Type} {ma : M α} {f : α → M Fl} {R : Wd → α → Hp → Hp → Env → Prop} (hp : W.pn.map (·.1) = ps) (re : RE K W Hs H σ δ) (po : PostF K E W Hs (mBind ma f δ) B)
    (k : ∀ a Hs1 H1 δ1, Ex Hs Hs1 → RE K W Hs1 H1 σ δ1 → PostF K E W Hs1 (f a δ1) B → R W a Hs1 H1 δ1) : Cf K E ps ma σ H R := by
  refine ⟨W, Hs, δ, hp, re, ?_⟩
  unfold mBind at po
  cases h : ma δ with
  | ok a δ1 =>
    rw [h] at po
    exact fun Hs' H' e r => k a Hs' H' δ1 e r (PostS.ex po e)
  | exc x δ1 =>
    rw [h] at po
    exact fun Hs' H' e r => po σ Hs' H' e r
  | bad =>
    rw [h] at po
    exact po
theorem tOf.stepS {ma : M D} {f : D → M Fl} {R : V → Hp → Prop} (hp : W.pn.map (·.1) = ps) (re : RE K W Hs H σ δ) (po : PostF K E W Hs (mBind ma f δ) B)
    (k : ∀ v d Hs1 H1 δ1, Ex Hs Hs1 → RE K W Hs1 H1 σ δ1 → Rp K Hs1 v d → PostF K E W Hs1 (f d δ1) B → R v H1) : tOf K E ps ma σ H R :=
  Cf.stepS hp re po fun d Hs1 H1 δ1 e r p v rv => k v d Hs1 H1 δ1 e r rv p
theorem tOfO.stepS {ma : M (List D)} {f : List D → M Fl} {R : V → Hp → Prop} (hp : W.pn.map (·.1) = ps) (re : RE K W Hs H σ δ) (po : PostF K E W Hs (mBind ma f δ) B)
    (k : ∀ a xs Hs1 H1 δ1, Ex Hs Hs1 → RE K W Hs1 H1 σ δ1 → FrO K W Hs1 H1 σ δ1 a xs → PostF K E W Hs1 (f xs δ1) B → R (.ref a) H1) : tOfO K E ps ma σ H R :=
  Cf.stepS hp re po fun xs Hs1 H1 δ1 e r p a fa => k a xs Hs1 H1 δ1 e r fa p
theorem PostS.of {fl : Fl} {b : Wd → Fl → L2.St → Hp → Hp → Env → Prop} (po : PostS K E W Hs (.ok fl δ) B b) (re : RE K W Hs H σ δ) : b W fl σ Hs H δ := po σ Hs H (Ex.refl _) re
theorem optF {α : Type} {oa : Option α} {f : α → M Fl} (po : PostF K E W Hs (mBind (mOpt oa) f δ) B) : ∃ a, oa = some a ∧ PostF K E W Hs (f a δ) B := by
  cases oa with
  | none => exact po.elim
  | some a => exact ⟨a, rfl, po⟩
theorem mOwn_postF {i : Nat} {f : List D → M Fl} (po : PostF K E W Hs (mBind (mOwn i) f δ) B) : ∃ xs, δ[i]? = some (Sl.ow xs) ∧ PostF K E W Hs (f xs δ) B := by
  unfold mBind mOwn at po
  split at po
  · rename_i a e' h
    split at h
    · rename_i xs hx
      cases h
      exact ⟨_, hx, po⟩
    · cases h
  · rename_i x e' h
    split at h <;> cases h
  · exact po.elim
end
section
variable {X : Cx} {E : XQ} {ps : List Nat} {a b e : Expr} {st : Stmt} {rest : List Stmt} {pos : Pos} {m : M D} {mo : M (List D)} {m1 m2 : M Fl}
def mSeq (m1 m2 : M Fl) : M Fl := fun δ => match m1 δ with
  | .ok .nx δ' => m2 δ'
  | r => r
def mNx : M Fl := mPure .nx
theorem jss_nil : PSs X [] (tOfS X.K E ps mNx) := pss_imp pss_nil fun B σ H ⟨W, Hs, δ, hp, re, po⟩ => PostS.of po re
theorem jss_one (h : PS X st (tOfS X.K E ps m1)) : PSs X [st] (tOfS X.K E ps m1) := pss_one h
theorem jss_cons (h : PS X st (tOfS X.K E ps m1)) (t : PSs X rest (tOfS X.K E ps m2)) : PSs X (st :: rest) (tOfS X.K E ps (mSeq m1 m2)) :=
  pss_imp (pss_cons h t) fun B σ H ⟨W, Hs, δ, hp, re, po⟩ => by
    refine ⟨W, Hs, δ, hp, re, ?_⟩
    unfold mSeq at po
    cases q : m1 δ with
    | ok fl δ1 =>
      rw [q] at po
      cases fl with
      | nx => exact fun σ' Hs' H' e r => ⟨W, Hs', δ1, hp, r, PostS.ex po e⟩
      | rt s => cases s <;> exact po
      | bk => exact po
      | ct => exact po
    | exc x δ1 =>
      rw [q] at po
      exact po
    | bad =>
      rw [q] at po
      exact po
def mExpr (m : M D) : M Fl := mBind m fun _ => mNx
theorem js_expr (h : PE X e (tOf X.K E ps m)) (hs : swapsWith e none pos.line X.env = pure false := by rfl) : PS X (.Expr e pos) (tOfS X.K E ps (mExpr m)) :=
  pst_imp (ps_expr h hs) fun B σ H ⟨W, Hs, δ, hp, re, po⟩ => tOf.stepS hp re po fun v d Hs1 H1 δ1 e1 re1 r1 po1 => PostS.of po1 re1
def mRet (m : M D) : M Fl := mBind m fun d => mPure (.rt (.sh d))
theorem js_ret (h : PE X e (tOf X.K E ps m)) : PS X (.Return (some e) pos) (tOfS X.K E ps (mRet m)) :=
  pst_imp (ps_ret h) fun B σ H ⟨W, Hs, δ, hp, re, po⟩ => tOf.stepS hp re po fun v d Hs1 H1 δ1 e1 re1 r1 po1 => PostS.of po1 re1 v r1
def mIfS (t : M Bool) (m1 m2 : M Fl) : M Fl := mBind t fun b => if b then m1 else m2
theorem js_if {c : Expr} {sa sb : List Stmt} {t : M Bool} (hc : PT X c (tOfT X.K E ps t)) (h1 : PSs X sa (tOfS X.K E ps m1)) (h2 : PSs X sb (tOfS X.K E ps m2)) : PS X (.If c sa sb pos) (tOfS X.K E ps (mIfS t m1 m2)) :=
  pst_imp (ps_if hc h1 h2) fun B σ H ⟨W, Hs, δ, hp, re, po⟩ => Cf.stepS hp re po fun b Hs1 H1 δ1 e1 re1 po1 => by
    cases b with
    | true => exact ⟨W, Hs1, δ1, hp, re1, po1⟩
    | false => exact ⟨W, Hs1, δ1, hp, re1, po1⟩
/-- x = e -/
def mSet (i : Nat) (m : M D) : M Fl := mBind m fun d => fun δ => .ok .nx (δ.set i (.sh d))
theorem js_set {i : Nat} {x : Str} {pos' : Pos} (hps : i ∉ ps) (hN : X.N.Nodup) (hi : X.N[i]? = some x) (hx : Loc X.env.scope x) (h : PE X e (tOf X.K E ps m)) (hs : swapsWith e (some (.Name x pos')) pos.line X.env = pure false := by rfl) (hf : X.fn x = true ∨ X.env.scope.names.lookup x = some .local := by first | exact .inl rfl | exact .inr rfl | assumption) :
    PS X (.Assign [.Name x pos'] e pos) (tOfS X.K E ps (mSet i m)) :=
  pst_imp (ps_set hN hi hx h hs hf) fun B σ H ⟨W, Hs, δ, hp, re, po⟩ => tOf.stepS hp re po fun v d Hs1 H1 δ1 e1 re1 r1 po1 => PostS.of po1 (re1.setSh r1 (by rw [hp]; exact hps))
/-- x[i] = e, x a list of one's own -/
def mSetIx (k : Nat) (mi me : M D) : M Fl := mBind me fun d => mBind (mOwn k) fun _ => mBind mi fun e => mBind (mOwn k) fun xs => mBind (mOpt (toI e)) fun n => mBind (mOpt (n.bind fun n => ixN xs.length n)) fun j => fun δ => .ok .nx (δ.set k (.ow (xs.set j d)))
theorem js_setIx {k : Nat} {x : Str} {p p' : Pos} {i v : Expr} {mi me : M D} (hN : X.N[k]? = some x) (hv : Vis X.env.scope x) (he : PE X v (tOf X.K E ps me)) (hi : PE X i (tOf X.K E ps mi)) (hd : (x == ("__debug__" : Str)) = false := by decide) (hcd : (x == ("__classdict__" : Str)) = false := by decide)
    (ha : ∀ v, assign (.Subscript (.Name x p) i p') X.env v = (do
      let ov ← holding [v] (eval (.Name x p) X.env)
      let iv ← holding [v, ov] (eval i X.env)
      standAt p'
      holding [v, ov, iv] (setItem ov iv v)
      release [v, ov, iv] []) := by intro _; rfl)
    (hs : swapsWithSole [.Subscript (.Name x p) i p'] v pos.line X.env = pure false := by rfl) (hw : swappedStores [.Subscript (.Name x p) i p'] v X.env = pure none := by rfl)
    (h1 : (assignEach [.Subscript (.Name x p) i p'] X.env).map (·.2) = [assign (.Subscript (.Name x p) i p') X.env] := by rfl) : PS X (.Assign [.Subscript (.Name x p) i p'] v pos) (tOfS X.K E ps (mSetIx k mi me)) :=
  pst_imp (ps_asg he (pg_sub (pe_var hN hv hd hcd) hi set_list ha) hs hw h1) fun B σ H ⟨W, Hs, δ, hp, re, po⟩ => by
    refine tOf.stepS hp re po fun w d Hs1 H1 δ1 e1 re1 r1 po1 => ?_
    obtain ⟨xs, hx, po2⟩ := mOwn_postF po1
    obtain ⟨q, Hb, g1, _⟩ := lent re1 hx
    refine ⟨_, g1, tOf.stepS hp re1 po2 fun u c Hs2 H2 δ2 e2 re2 r2 po3 => ?_⟩
    obtain ⟨xs', hx', po4⟩ := mOwn_postF po3
    obtain ⟨q', Hb', g1', _, _, _, _, _, vs, g7, g8⟩ := lent re2 hx'
    have eq : q' = q := by rw [g1] at g1'; cases g1'; rfl
    subst eq
    obtain ⟨n, hn, po5⟩ := optF po4
    obtain ⟨j, hj, po6⟩ := optF po5
    cases r2 <;> simp [toI] at hn
    subst hn
    simp only [Option.bind_some] at hj
    refine ⟨q', vs, _, j, rfl, rfl, g7, by rw [g8.length]; exact hj, ?_⟩
    exact PostS.of po6 (re2.write hx' rfl g1 (s := .ow (xs'.set j d)) rfl (Rps.set (r1.ex e2) j g8))
/-- x.append(e) -/
def mApp (k : Nat) (me : M D) : M Fl := mBind (mOwn k) fun _ => mBind me fun d => mBind (mOwn k) fun xs => mBind (mOpt (if xs.length < sizeLine then some () else none)) fun _ => fun δ => .ok .nx (δ.set k (.ow (xs ++ [d])))
theorem js_app {k : Nat} {x : Str} {p apos cpos : Pos} {v : Expr} {me : M D} (hN : X.N[k]? = some x) (hv : Vis X.env.scope x) (he : PE X v (tOf X.K E ps me)) (hd : (x == ("__debug__" : Str)) = false := by decide) (hcd : (x == ("__classdict__" : Str)) = false := by decide)
    {PE0 : PE X (.Call (.Attribute (.Name x p) "append" apos) [v] [] cpos) (tBM X.K "list" rAppend (tVar k) (tCons (tOf X.K E ps me) tNil))}
    (hs : swapsWith (.Call (.Attribute (.Name x p) "append" apos) [v] [] cpos) none pos.line X.env = pure false := by rfl) : PS X (.Expr (.Call (.Attribute (.Name x p) "append" apos) [v] [] cpos) pos) (tOfS X.K E ps (mApp k me)) :=
  pst_imp (ps_expr PE0 hs) fun B σ H ⟨W, Hs, δ, hp, re, po⟩ => by
    obtain ⟨xs, hx, po1⟩ := mOwn_postF po
    obtain ⟨q, Hb, g1, _, _, _, _, g6, _⟩ := lent re hx
    refine ⟨_, g1, g6, tOf.stepS hp re po1 fun w d Hs1 H1 δ1 e1 re1 r1 po2 => ?_⟩
    obtain ⟨xs', hx', po3⟩ := mOwn_postF po2
    obtain ⟨q', Hb', g1', _, _, _, _, _, vs, g7, g8⟩ := lent re1 hx'
    have eq : q' = q := by rw [g1] at g1'; cases g1'; rfl
    subst eq
    obtain ⟨_, hl, po4⟩ := optF po3
    have hlt : xs'.length < sizeLine := by
      by_cases h : xs'.length < sizeLine
      · exact h
      · rw [if_neg h] at hl; cases hl
    refine ⟨q', vs, w, rfl, rfl, g7, by rw [g8.length]; exact hlt, ?_⟩
    exact PostS.of po4 (re1.write hx' rfl g1 (s := .ow (xs' ++ [d])) rfl (g8.snoc r1))
def PostG (r : Res Unit) (Q : Env → Prop) : Prop := match r with
  | .ok _ δ' => Q δ'
  | _ => False
def rBind (r : Res Unit) (f : Env → Res Unit) : Res Unit := match r with
  | .ok _ δ' => f δ'
  | _ => .bad
theorem PostG.bind {r : Res Unit} {f : Env → Res Unit} {Q : Env → Prop} (h : PostG (rBind r f) Q) : PostG r fun δ' => PostG (f δ') Q := by
  cases r with
  | ok a δ => exact h
  | exc x δ => exact h
  | bad => exact h
theorem PostG.imp {r : Res Unit} {Q Q' : Env → Prop} (h : PostG r Q) (k : ∀ δ, Q δ → Q' δ) : PostG r Q' := by
  cases r with
  | ok a δ => exact k δ h
  | exc x δ => exact h
  | bad => exact h
/-- the same but for some slots -/
def Off (gv : List Nat) (σ σ' : L2.St) : Prop := σ'.length = σ.length ∧ ∀ j, j ∉ gv → σ'[j]? = σ[j]?
theorem Off.refl {gv : List Nat} {σ : L2.St} : Off gv σ σ := ⟨rfl, fun _ _ => rfl⟩
theorem Off.trans {gv gw : List Nat} {σ σ1 σ2 : L2.St} (a : Off gv σ σ1) (b : Off gw σ1 σ2) : Off (gv ++ gw) σ σ2 := ⟨b.1.trans a.1, fun j h => by
  rw [List.mem_append, not_or] at h
  rw [b.2 j h.2, a.2 j h.1]⟩
def gOf (K : Frag) (E : XQ) (ps gv : List Nat) (mg : D → M Unit) : TG := fun v σ H Q => ∃ (W : Wd) (Hs : Hp) (δ : Env) (d : D), W.pn.map (·.1) = ps ∧ RE K W Hs H σ δ ∧ Rp K Hs v d ∧
  PostG (mg d δ) fun δ' => ∀ σ' Hs' H', Ex Hs Hs' → RE K W Hs' H' σ' δ' → Off gv σ σ' → Q σ' H'
def gOfs (K : Frag) (E : XQ) (ps gv : List Nat) (mg : List D → M Unit) : TGs := fun vs σ H Q => ∃ (W : Wd) (Hs : Hp) (δ : Env) (ds : List D), W.pn.map (·.1) = ps ∧ RE K W Hs H σ δ ∧ Rps K Hs vs ds ∧
  PostG (mg ds δ) fun δ' => ∀ σ' Hs' H', Ex Hs Hs' → RE K W Hs' H' σ' δ' → Off gv σ σ' → Q σ' H'
theorem pg_imp {tg : Expr} {t t' : TG} (h : PG X tg t) (k : ∀ v σ H Q, t' v σ H Q → t v σ H Q) : PG X tg t' := ⟨fun pins s σ H v u Q I r q => h.run pins s σ H v u Q I r (k v σ H Q q)⟩
theorem pgs_imp {tg : List Expr} {t t' : TGs} (h : PGs X tg t) (k : ∀ v σ H Q, t' v σ H Q → t v σ H Q) : PGs X tg t' := ⟨fun pins s σ H v u Q I r q => h.run pins s σ H v u Q I r (k v σ H Q q)⟩
def mgName (i : Nat) : D → M Unit := fun d δ => .ok () (δ.set i (.sh d))
theorem jg_name {i : Nat} {x : Str} (hps : i ∉ ps) (hN : X.N.Nodup) (hi : X.N[i]? = some x) (hx : Loc X.env.scope x) (hf : X.fn x = true ∨ X.env.scope.names.lookup x = some .local := by first | exact .inl rfl | exact .inr rfl | assumption) : PG X (.Name x pos) (gOf X.K E ps [i] (mgName i)) :=
  pg_imp (pg_name hN hi hx hf) fun v σ H Q ⟨W, Hs, δ, d, hp, re, r, po⟩ => po _ Hs H (Ex.refl _) (re.setSh r (by rw [hp]; exact hps)) ⟨by simp, fun j hj => by rw [List.getElem?_set_ne (fun z => hj (by simp [z]))]⟩
def mgNil : List D → M Unit
  | [] => mPure ()
  | _ :: _ => fun _ => .bad
def mgCons (g : D → M Unit) (gs : List D → M Unit) : List D → M Unit
  | d :: ds => fun δ => rBind (g d δ) (gs ds)
  | [] => fun _ => .bad
theorem jgs_nil : PGs X [] (gOfs X.K E ps [] mgNil) := pgs_imp pgs_nil fun vs σ H Q ⟨W, Hs, δ, ds, hp, re, r, po⟩ => by
  cases r with
  | nil => exact ⟨rfl, po σ Hs H (Ex.refl _) re Off.refl⟩
  | cons _ _ => exact po.elim
theorem jgs_cons {t : Expr} {ts : List Expr} {gv gw : List Nat} {g : D → M Unit} {gs : List D → M Unit} (h1 : PG X t (gOf X.K E ps gv g)) (h2 : PGs X ts (gOfs X.K E ps gw gs)) (hs : (assignEach (t :: ts) X.env).map (·.2) = assign t X.env :: (assignEach ts X.env).map (·.2) := by rfl) : PGs X (t :: ts) (gOfs X.K E ps (gv ++ gw) (mgCons g gs)) :=
  pgs_imp (pgs_cons h1 h2 hs) fun vs σ H Q ⟨W, Hs, δ, ds, hp, re, r, po⟩ => by
    cases r with
    | nil => exact po.elim
    | cons r1 rs =>
      refine ⟨_, _, rfl, W, Hs, δ, _, hp, re, r1, (PostG.bind po).imp fun δ1 po1 => ?_⟩
      exact fun σ' Hs' H' e re' of => ⟨W, Hs', δ1, _, hp, re', rs.ex e, po1.imp fun δ2 k σ2 Hs2 H2 e2 r2 of2 => k σ2 Hs2 H2 (e.trans e2) r2 (of.trans of2)⟩
/-- how many names, at any rate -/
def mgLen (n : Nat) (gs : List D → M Unit) : List D → M Unit := fun ds δ => if ds.length = n then gs ds δ else .bad
def mgTup (n : Nat) (gs : List D → M Unit) : D → M Unit
  | .tuple ds => mgLen n gs ds
  | _ => fun _ => .bad
def mgLst (n : Nat) (gs : List D → M Unit) : D → M Unit
  | .list ds => mgLen n gs ds
  | _ => fun _ => .bad
theorem mgLen_post {n : Nat} {gs : List D → M Unit} {ds : List D} {δ : Env} {Q : Env → Prop} (h : PostG (mgLen n gs ds δ) Q) : ds.length = n ∧ PostG (gs ds δ) Q := by
  unfold mgLen at h
  by_cases hl : ds.length = n
  · rw [if_pos hl] at h; exact ⟨hl, h⟩
  · rw [if_neg hl] at h; exact h.elim
theorem jg_tup {ts : List Expr} {k n : Nat} {gv : List Nat} {gs : List D → M Unit} (hc : X.calm = true) (h : PGs X ts (gOfs X.K E ps gv gs)) (hn : (assignEach ts X.env).length = n := by rfl) (hst : (assignEach ts X.env).findIdx? (·.1) = none := by rfl) : PG X (.Tuple ts k pos) (gOf X.K E ps gv (mgTup n gs)) :=
  pg_imp (pg_tup (n := n) hc h hn hst) fun v σ H Q ⟨W, Hs, δ, d, hp, re, r, po⟩ => by
    cases r with
    | tup h1 t =>
      obtain ⟨hl, po1⟩ := mgLen_post po
      exact ⟨_, _, rfl, sqT_ex re.ex h1, by rw [t.length]; exact hl, W, Hs, δ, _, hp, re, t, po1⟩
    | _ => exact po.elim
theorem jg_lst {ts : List Expr} {k n : Nat} {gv : List Nat} {gs : List D → M Unit} (hc : X.calm = true) (h : PGs X ts (gOfs X.K E ps gv gs)) (hn : (assignEach ts X.env).length = n := by rfl) (hst : (assignEach ts X.env).findIdx? (·.1) = none := by rfl) : PG X (.Tuple ts k pos) (gOf X.K E ps gv (mgLst n gs)) :=
  pg_imp (pg_unl (n := n) hc h hn hst) fun v σ H Q ⟨W, Hs, δ, d, hp, re, r, po⟩ => by
    cases r with
    | lst h1 t =>
      obtain ⟨hl, po1⟩ := mgLen_post po
      exact ⟨_, _, rfl, sqL_ex re.ex h1, by rw [t.length]; exact hl, W, Hs, δ, _, hp, re, t, po1⟩
    | _ => exact po.elim
/-- targets = e -/
def mAsg (g : D → M Unit) (m : M D) : M Fl := mBind m fun d δ => match g d δ with
  | .ok _ δ' => .ok .nx δ'
  | _ => .bad
theorem js_asg {tg : Expr} {gv : List Nat} {g : D → M Unit} (h : PE X e (tOf X.K E ps m)) (hg : PG X tg (gOf X.K E ps gv g)) (hs : swapsWithSole [tg] e pos.line X.env = pure false := by rfl) (hw : swappedStores [tg] e X.env = pure none := by rfl)
    (h1 : (assignEach [tg] X.env).map (·.2) = [assign tg X.env] := by rfl) : PS X (.Assign [tg] e pos) (tOfS X.K E ps (mAsg g m)) :=
  pst_imp (ps_asg h hg hs hw h1) fun B σ H ⟨W, Hs, δ, hp, re, po⟩ => tOf.stepS hp re po fun v d Hs1 H1 δ1 e1 re1 r1 po1 => by
    refine ⟨W, Hs1, δ1, d, hp, re1, r1, ?_⟩
    cases q : g d δ1 with
    | ok u δ2 => rw [q] at po1; exact fun σ' Hs' H' e r _ => po1 σ' Hs' H' e r
    | exc x δ2 => rw [q] at po1; exact po1
    | bad => rw [q] at po1; exact po1
end
end Dn
namespace Dn
open PySem PySem.Spec PyProof.Rows L2
def ItOk (K : Frag) (Hs : Hp) (J : It) (ds : List D) : Prop := ∀ Hs1 H1, Ex Hs Hs1 → Ex Hs1 H1 → ∀ i : Nat,
  (∀ d, ds[i]? = some d → J.go i H1 ∧ ∀ x H2, J.yld i H1 x H2 → ∃ Hs2, Gr Hs1 H1 Hs2 H2 ∧ Rp K Hs2 x d) ∧ (ds[i]? = none → J.stop i H1)
def tOfI (K : Frag) (E : XQ) (ps : List Nat) (m : M (List D)) : TI := fun σ H R => Cf K E ps m σ H fun _ ds Hs' H' _ => ∀ J, ItOk K Hs' J ds → R J H'
theorem pi_imp {X : Cx} {tg e : Expr} {t t' : TI} (h : PI X tg e t) (k : ∀ σ H Q, t' σ H Q → t σ H Q) : PI X tg e t' := ⟨fun pins s σ H Q I q => h.run pins s σ H Q I (k σ H Q q)⟩
def sgnD (z : Str) : List D := z.cps.toList.map fun c => .str ⟨#[c]⟩
def dItems : D → Option (List D)
  | .list xs => some xs
  | .tuple xs => some xs
  | .str z => some (sgnD z)
  | _ => none
section
variable {X : Cx} {E : XQ} {ps : List Nat} {tg e : Expr} {pos : Pos} {m : M D}
/-- a list, a tuple, a text -/
def iAnyR (K : Frag) (tl : TE) : TI := fun σ H R => tl σ H fun x H1 => (∃ a, x = .ref a ∧ (∃ xs, SqL K H1 a xs) ∧ R (Itl K a) H1) ∨ (∃ a, x = .ref a ∧ (∃ xs, SqT K H1 a xs) ∧ R (Itt K a) H1) ∨ ∃ z, x = .str z ∧ R (Its z) H1
theorem pi_anyR {tl : TE} (hl : PE X e tl) : PI X tg e (iAnyR X.K tl) := by
  constructor
  intro pins s σ H R I h
  refine thn (hl.run pins s σ H _ I h) ?_
  rintro v s1 ⟨x, H1, I1, r1, q1⟩
  rcases q1 with ⟨a, hx, ⟨xs, hq⟩, q⟩ | ⟨a, hx, ⟨xs, hq⟩, q⟩ | ⟨z, hx, q⟩
  · subst hx
    obtain rfl : v = Value.ref a := r1
    obtain ⟨its, rv, p, hz⟩ := I1.list hq
    exact wpAny_pyIter_list p.isList (pi_one (tk := s1.toks) I1 _ (turn_list a _)
      ⟨_, Heap.get?_push_size _ rfl, rfl, rfl⟩ q)
  · subst hx
    obtain rfl : v = Value.ref a := r1
    obtain ⟨its, rv, p, hz⟩ := I1.tuple hq
    have pt : s1.heap.IsTuple a its.toArray := p
    exact wpAny_pyIter_tuple pt (pi_one (tk := s1.toks) I1 _ (turn_tuple a _)
      ⟨_, Heap.get?_push_size _ rfl, rfl, rfl⟩ q)
  · subst hx
    obtain ⟨t, rfl⟩ := r1
    by_cases ha : z.cps.all (· < 128) = true
    · exact wpAny_pyIter_ascii ha (pi_one (tk := s1.toks) I1 _ (turn_str _ z t _ (.inl rfl))
        ⟨_, Heap.get?_push_size _ rfl, rfl, rfl⟩ q)
    · have ha' : z.cps.all (· < 128) = false := by simpa using ha
      exact wpAny_pyIter_wide ha' (pi_one (tk := s1.toks) I1 _ (turn_str _ z t _ (.inr rfl))
        ⟨_, Heap.get?_push_size _ rfl, rfl, rfl⟩ q)
theorem none_le {α : Type} {l : List α} {i : Nat} (h : l[i]? = none) : l.length ≤ i := List.getElem?_eq_none_iff.mp h
theorem it_list {K : Frag} {Hs : Hp} {a : Addr} {vs : List V} {ds : List D} (h : SqL K Hs a vs) (t : Rps K Hs vs ds) : ItOk K Hs (Itl K a) ds := fun Hs1 H1 e1 e2 i => ⟨fun d hd => by
  obtain ⟨v, h1, h2⟩ := t.get hd
  have hq : SqL K H1 a vs := sqL_ex (e1.trans e2) h
  refine ⟨⟨vs, v, hq, h1⟩, fun x H2 ⟨hH, hx⟩ => ?_⟩
  subst hH
  have := hx vs hq
  rw [h1] at this
  cases this
  exact ⟨Hs1, .refl e2, h2.ex e1⟩, fun hn => ⟨vs, sqL_ex (e1.trans e2) h, by rw [t.length]; exact none_le hn⟩⟩
theorem it_tup {K : Frag} {Hs : Hp} {a : Addr} {vs : List V} {ds : List D} (h : StT K Hs a vs) (t : Rps K Hs vs ds) : ItOk K Hs (Itt K a) ds := fun Hs1 H1 e1 e2 i => ⟨fun d hd => by
  obtain ⟨v, h1, h2⟩ := t.get hd
  have hq : SqT K H1 a vs := sqT_ex (e1.trans e2) h
  refine ⟨⟨vs, v, hq, h1⟩, fun x H2 ⟨hH, hx⟩ => ?_⟩
  subst hH
  have := hx vs hq
  rw [h1] at this
  cases this
  exact ⟨Hs1, .refl e2, h2.ex e1⟩, fun hn => ⟨vs, sqT_ex (e1.trans e2) h, by rw [t.length]; exact none_le hn⟩⟩
theorem it_str {K : Frag} {Hs : Hp} {z : Str} : ItOk K Hs (Its z) (sgnD z) := fun Hs1 H1 e1 e2 i => ⟨fun d hd => by
  unfold sgnD at hd
  rw [List.getElem?_map, Option.map_eq_some_iff] at hd
  obtain ⟨c, hc, hd⟩ := hd
  subst hd
  rw [Array.getElem?_toList] at hc
  refine ⟨(Array.getElem?_eq_some_iff.mp hc).1, fun x H2 ⟨hH, c', hc', hx⟩ => ?_⟩
  subst hH; subst hx
  rw [hc] at hc'
  cases hc'
  exact ⟨Hs1, .refl e2, .str _⟩, fun hn => by
  have := none_le hn
  unfold sgnD at this
  rw [List.length_map, Array.length_toList] at this
  exact this⟩
def mIter (m : M D) : M (List D) := mBind m fun d => mOpt (dItems d)
theorem ji_any (h : PE X e (tOf X.K E ps m)) : PI X tg e (tOfI X.K E ps (mIter m)) :=
  pi_imp (pi_anyR h) fun σ H R ⟨W, Hs, δ, hp, re, po⟩ => tOf.step hp re po fun v d Hs1 H1 δ1 e1 re1 r1 po1 => by
    obtain ⟨ds, hd, po2⟩ := Post.opt po1
    cases r1 with
    | lst h t =>
      obtain rfl := Option.some.inj hd
      exact .inl ⟨_, rfl, ⟨_, sqL_ex re1.ex h⟩, Post.of po2 re1 _ (it_list h t)⟩
    | tup h t =>
      obtain rfl := Option.some.inj hd
      exact .inr (.inl ⟨_, rfl, ⟨_, sqT_ex re1.ex h⟩, Post.of po2 re1 _ (it_tup h t)⟩)
    | str z =>
      obtain rfl := Option.some.inj hd
      exact .inr (.inr ⟨z, rfl, Post.of po2 re1 _ it_str⟩)
    | _ => simp [dItems] at hd
def inLine (i : Int) : Bool := decide (-(2 ^ 62) ≤ i ∧ i < 2 ^ 62)
def rngD (i : Int) (n : Nat) : List D := (List.range n).map fun (k : Nat) => PyData.int (i + (k : Int))
def bRng1 : D → Option (List D)
  | .int j => if inLine j then some (rngD 0 j.toNat) else none
  | _ => none
def bRng2 : D → D → Option (List D)
  | .int i, .int j => if inLine i ∧ inLine j then some (rngD i (j - i).toNat) else none
  | _, _ => none
theorem it_rng {K : Frag} {Hs : Hp} {lo : Int} {n : Nat} : ItOk K Hs (Itr lo n) (rngD lo n) := fun Hs1 H1 e1 e2 i => ⟨fun d hd => by
  unfold rngD at hd
  rw [List.getElem?_map, Option.map_eq_some_iff] at hd
  obtain ⟨c, hc, hd⟩ := hd
  subst hd
  obtain ⟨hi, hc⟩ := List.getElem?_eq_some_iff.mp hc
  rw [List.getElem_range] at hc
  subst hc
  rw [List.length_range] at hi
  refine ⟨hi, fun x H2 ⟨hH, hx⟩ => ?_⟩
  subst hH; subst hx
  exact ⟨Hs1, .refl e2, .int _⟩, fun hn => by
  have := none_le hn
  unfold rngD at this
  rw [List.length_map, List.length_range] at this
  exact this⟩
def mRng1 (m : M D) : M (List D) := mBind m fun d => mOpt (bRng1 d)
def mRng2 (ma mb : M D) : M (List D) := mBind ma fun d => mBind mb fun e => mOpt (bRng2 d e)
theorem ji_range1 {a : Expr} {p : Pos} {ma : M D} (hg : Gl X "range") (hm : X.mg "range" = none) (ha : PE X a (tOf X.K E ps ma)) (hs : starEach [a] X.env = [(false, eval a X.env)] := by rfl) : PI X tg (.Call (.Name "range" p) [a] [] pos) (tOfI X.K E ps (mRng1 ma)) :=
  pi_imp (pi_range1 hg hm (pa_cons ha pa_nil hs) hs) fun σ H R ⟨W, Hs, δ, hp, re, po⟩ => tOf.step hp re po fun v d Hs1 H1 δ1 e1 re1 r1 po1 => by
    obtain ⟨ds, hd, po2⟩ := Post.opt po1
    cases r1 with
    | int j =>
      simp only [bRng1, Option.ite_none_right_eq_some, Option.some.injEq] at hd
      obtain ⟨hl, hd⟩ := hd
      subst hd
      have hl' := of_decide_eq_true hl
      exact ⟨j, rfl, hl'.1, hl'.2, Post.of po2 re1 _ it_rng⟩
    | _ => simp [bRng1] at hd
def forL (g : D → M Unit) (mb : M Fl) : List D → M Fl
  | [] => mNx
  | d :: ds => fun δ => match g d δ with
    | .ok _ δ1 => match mb δ1 with
      | .ok .nx δ2 => forL g mb ds δ2
      | .ok .ct δ2 => forL g mb ds δ2
      | .ok .bk δ2 => .ok .nx δ2
      | .ok (.rt s) δ2 => .ok (.rt s) δ2
      | .exc x δ2 => .exc x δ2
      | .bad => .bad
    | _ => .bad
def mFor (mi : M (List D)) (g : D → M Unit) (mb : M Fl) : M Fl := mBind mi (forL g mb)
theorem js_for {iter : Expr} {body : List Stmt} {mi : M (List D)} {gv : List Nat} {g : D → M Unit} {mb : M Fl} (hpa : PassesOwn (model X.prog X.w) X.A X.env X.xe) (hc : X.calm = true) (hi : PI X tg iter (tOfI X.K E ps mi)) (hg : PG X tg (gOf X.K E ps gv g)) (hb : PSs X body (tOfS X.K E ps mb))
    (hs : ∀ x, foldedSetIterable iter X.env x = pure x := by intro _; rfl) : PS X (.For tg iter body [] pos) (tOfS X.K E ps (mFor mi g mb)) :=
  pst_imp (ps_for hpa hc hi hg hb hs) fun B σ H ⟨W, Hs, δ, hp, re, po⟩ => Cf.stepS hp re po fun ds Hs1 H1 δ1 e1 re1 po1 J hJ => by
    refine ⟨fun i m σ' H' => m = ds.length - i ∧ i ≤ ds.length ∧ ∃ Hs2 δ2, Ex Hs1 Hs2 ∧ RE X.K W Hs2 H' σ' δ2 ∧ PostF X.K E W Hs2 (forL g mb (ds.drop i) δ2) B, ⟨ds.length, rfl, Nat.zero_le _, Hs1, δ1, Ex.refl _, re1, po1⟩, ?_⟩
    rintro i m σ' H' ⟨hm, hi, Hs2, δ2, e2, re2, po2⟩
    obtain ⟨j1, j2⟩ := hJ Hs2 H' e2 re2.ex i
    by_cases hlt : i < ds.length
    · have hd : ds[i]? = some ds[i] := List.getElem?_eq_getElem hlt
      obtain ⟨g1, g2⟩ := j1 _ hd
      refine .inr ⟨g1, fun σ3 H3 => ∃ Hs3 δ3, Ex Hs1 Hs3 ∧ RE X.K W Hs3 H3 σ3 δ3 ∧ PostF X.K E W Hs3 (forL g mb (ds.drop (i + 1)) δ3) B, fun σ3 H3 ⟨Hs3, δ3, e3, re3, po3⟩ => ⟨ds.length - (i + 1), by omega, rfl, hlt, Hs3, δ3, e3, re3, po3⟩, fun x H3 y => ?_⟩
      obtain ⟨Hs3, gr, rx⟩ := g2 x H3 y
      have re3 := re2.grow gr
      have po3 := PostS.ex po2 gr.s
      rw [List.drop_eq_getElem_cons hlt] at po3
      unfold forL at po3
      refine ⟨W, Hs3, δ2, ds[i], hp, re3, rx, ?_⟩
      cases q : g ds[i] δ2 with
      | ok u δ4 =>
        rw [q] at po3
        refine fun σ4 Hs4 H4 e4 re4 _ => ⟨W, Hs4, δ4, hp, re4, ?_⟩
        dsimp only at po3
        cases z : mb δ4 with
        | ok fl δ5 =>
          rw [z] at po3
          cases fl with
          | nx => exact fun σ5 Hs5 H5 e5 re5 => ⟨Hs5, δ5, ((e2.trans gr.s).trans e4).trans e5, re5, PostS.ex po3 (e4.trans e5)⟩
          | ct => exact fun σ5 Hs5 H5 e5 re5 => ⟨Hs5, δ5, ((e2.trans gr.s).trans e4).trans e5, re5, PostS.ex po3 (e4.trans e5)⟩
          | bk => exact fun σ5 Hs5 H5 e5 re5 => po3 σ5 Hs5 H5 (e4.trans e5) re5
          | rt s => cases s <;> exact fun σ5 Hs5 H5 e5 re5 => po3 σ5 Hs5 H5 (e4.trans e5) re5
        | exc x δ5 =>
          rw [z] at po3
          exact fun σ5 Hs5 H5 e5 re5 => po3 σ5 Hs5 H5 (e4.trans e5) re5
        | bad => rw [z] at po3; exact po3
      | exc x δ4 => rw [q] at po3; exact po3
      | bad => rw [q] at po3; exact po3
    · have e : i = ds.length := by omega
      subst e
      rw [List.drop_length] at po2
      exact .inl ⟨j2 (List.getElem?_eq_none_iff.mpr (Nat.le_refl _)), PostS.of po2 re2⟩
end
def wipeE (δ : Env) : List Nat → Env
  | [] => δ
  | v :: vs => (wipeE δ vs).set v .no
def backE (δ1 δ2 : Env) : List Nat → Env
  | [] => δ2
  | v :: vs => (backE δ1 δ2 vs).set v (δ1.getD v .no)
theorem wipeE_length (δ : Env) : ∀ vs, (wipeE δ vs).length = δ.length
  | [] => rfl
  | v :: vs => by unfold wipeE; rw [List.length_set, wipeE_length δ vs]
theorem backE_length (δ1 δ2 : Env) : ∀ vs, (backE δ1 δ2 vs).length = δ2.length
  | [] => rfl
  | v :: vs => by unfold backE; rw [List.length_set, backE_length δ1 δ2 vs]
theorem wipeE_in {δ : Env} {i : Nat} {s : Sl} : ∀ {vs : List Nat}, i ∈ vs → (wipeE δ vs)[i]? = some s → s = .no
  | v :: vs, h, q => by
    unfold wipeE at q
    rcases setGet q with ⟨_, z⟩ | ⟨hj, z⟩
    · exact z
    · rcases List.mem_cons.mp h with e | h
      · exact absurd e hj
      · exact wipeE_in h z
theorem wipeE_out {δ : Env} {i : Nat} : ∀ {vs : List Nat}, i ∉ vs → (wipeE δ vs)[i]? = δ[i]?
  | [], _ => rfl
  | v :: vs, h => by
    unfold wipeE
    have hne : v ≠ i := fun z => h (by simp [z])
    rw [List.getElem?_set_ne hne]
    exact wipeE_out fun z => h (List.mem_cons_of_mem _ z)
theorem backE_in {δ1 δ2 : Env} {i : Nat} {s : Sl} : ∀ {vs : List Nat}, i ∈ vs → (backE δ1 δ2 vs)[i]? = some s → s = δ1.getD i .no
  | v :: vs, h, q => by
    unfold backE at q
    rcases setGet q with ⟨hv, z⟩ | ⟨hj, z⟩
    · rw [hv]; exact z
    · rcases List.mem_cons.mp h with e | h
      · exact absurd e hj
      · exact backE_in h z
theorem backE_out {δ1 δ2 : Env} {i : Nat} : ∀ {vs : List Nat}, i ∉ vs → (backE δ1 δ2 vs)[i]? = δ2[i]?
  | [], _ => rfl
  | v :: vs, h => by
    unfold backE
    have hne : v ≠ i := fun z => h (by simp [z])
    rw [List.getElem?_set_ne hne]
    exact backE_out fun z => h (List.mem_cons_of_mem _ z)
theorem wipe_off {σ σ2 : L2.St} {vs gv : List Nat} (h : Off gv (wipe σ vs) σ2) (hs : ∀ i ∈ gv, i ∈ vs) : wipe σ2 vs = wipe σ vs := by
  apply List.ext_getElem?
  intro j
  by_cases hj : j ∈ vs
  · have f : ∀ (τ : L2.St) (us : List Nat), j ∈ us → (wipe τ us)[j]? = if j < τ.length then some none else none := fun τ us hju => by
      induction us with
      | nil => cases hju
      | cons u us ih =>
        unfold wipe
        by_cases e : u = j
        · subst e
          rw [List.getElem?_set]
          simp [wipe_length]
        · rw [List.getElem?_set_ne e]
          exact ih ((List.mem_cons.mp hju).resolve_left (Ne.symm e))
    rw [f _ _ hj, f _ _ hj, h.1, wipe_length]
  · rw [wipe_out hj, h.2 j (fun z => hj (hs j z)), wipe_out hj]
section
variable {K : Frag} {W : Wd} {Hs H Hs' H' : Hp} {σ : L2.St} {δ δ' : Env} {vs : List Nat}
theorem RE.wipe (re : RE K W Hs H σ δ) (hv : ∀ i ∈ vs, i ∉ W.pn.map (·.1)) : RE K W Hs H (wipe σ vs) (wipeE δ vs) := by
  have r1 : RE K W Hs H σ (wipeE δ vs) := re.less (wipeE_length δ vs) (fun i s q => by
    by_cases hi : i ∈ vs
    · exact .inl (wipeE_in hi q)
    · rw [wipeE_out hi] at q; exact .inr q) fun p hp => wipeE_out fun z => hv p.1 z (List.mem_map_of_mem hp)
  refine r1.sig (wipe_length σ vs) fun i s q hn => ?_
  by_cases hi : i ∈ vs
  · exact absurd (wipeE_in hi q) hn
  · exact wipe_out hi
/-- behind a block: its own names are as they were ahead of it -/
theorem RE.back (re : RE K W Hs H σ δ) (re2 : RE K W Hs' H' (L2.wipe σ vs) δ') (e : Ex Hs Hs') (hno : ∀ i ∈ vs, (δ.getD i .no).own = false) (hv : ∀ i ∈ vs, i ∉ W.pn.map (·.1)) : RE K W Hs' H' σ (backE δ δ' vs) where
  ex := re2.ex
  fg := re2.fg
  len := by rw [backE_length, ← re2.len, wipe_length]
  sh := fun i d q => by
    by_cases hi : i ∈ vs
    · have z := backE_in hi q
      have hg : δ[i]? = some (Sl.sh d) := by
        rw [List.getD_eq_getElem?_getD] at z
        cases w : δ[i]? with
        | none => rw [w] at z; cases z
        | some s => rw [w] at z; exact congrArg some z.symm
      obtain ⟨v, h1, h2⟩ := re.sh i d hg
      exact ⟨v, h1, h2.ex e⟩
    · rw [backE_out hi] at q
      obtain ⟨v, h1, h2⟩ := re2.sh i d q
      rw [wipe_out hi] at h1
      exact ⟨v, h1, h2⟩
  ow := fun i s q w => by
    by_cases hi : i ∈ vs
    · have z := backE_in hi q
      rw [z, hno i hi] at w
      cases w
    · rw [backE_out hi] at q
      obtain ⟨a, o, h1, h2⟩ := re2.ow i s q w
      rw [wipe_out hi] at h1
      exact ⟨a, o, h1, h2⟩
  ap := fun i j s t a h1 h2 h3 h4 h5 h6 => by
    by_cases hi : i ∈ vs
    · have z := backE_in hi h1
      rw [z, hno i hi] at h2
      cases h2
    · by_cases hj : j ∈ vs
      · have z := backE_in hj h3
        rw [z, hno j hj] at h4
        cases h4
      · rw [backE_out hi] at h1
        rw [backE_out hj] at h3
        rw [← wipe_out hi] at h5
        rw [← wipe_out hj] at h6
        exact re2.ap i j s t a h1 h2 h3 h4 h5 h6
  pin := fun p hp => by
    have hi : p.1 ∉ vs := fun z => hv p.1 z (List.mem_map_of_mem hp)
    obtain ⟨h1, s, h2, h3⟩ := re2.pin p hp
    rw [wipe_out hi] at h1
    exact ⟨h1, s, by rw [backE_out hi]; exact h2, h3⟩
/-- a list in the making is lent out to nobody -/
theorem RE.hide {D : Addr} {xs : List PyData} {acc : List V} (re : RE K W Hs H σ δ) (f : FrO K W Hs H σ δ D xs) (ha : H D = some (.lst acc)) : RE K { W with G := upd W.G D (.lst acc) } Hs H σ δ where
  ex := re.ex
  fg := fun a o q => by
    by_cases e : a = D
    · subst e
      have q : upd W.G a (.lst acc) a = some o := q
      rw [upd_same] at q
      cases q
      exact ⟨ha, f.hs⟩
    · have q : upd W.G D (.lst acc) a = some o := q
      rw [upd_ne e] at q
      exact re.fg a o q
  len := re.len
  sh := re.sh
  ow := fun i s q w => by
    obtain ⟨a, o, h1, h2, h3, h4, h5⟩ := re.ow i s q w
    refine ⟨a, o, h1, h2, h3, h4, ?_⟩
    have e : a ≠ D := fun z => f.ne i s q w (z ▸ h1)
    show upd W.G D (.lst acc) a = none
    rw [upd_ne e]
    exact h5
  ap := re.ap
  pin := re.pin
theorem RE.shown {D : Addr} {o u : HO} (re : RE K { W with G := upd W.G D o } Hs H σ δ) (hg : W.G D = none) : RE K W Hs (upd H D u) σ δ where
  ex := fun a o' q => by
    have h := (re.fg D o (by show upd W.G D o D = _; rw [upd_same])).2
    have e : a ≠ D := fun z => by rw [z, h] at q; cases q
    rw [upd_ne e]
    exact re.ex a o' q
  fg := fun a o' q => by
    have e : a ≠ D := fun z => by rw [z, hg] at q; cases q
    rw [upd_ne e]
    exact re.fg a o' (by show upd W.G D o a = _; rw [upd_ne e]; exact q)
  len := re.len
  sh := re.sh
  ow := fun i s q w => by
    obtain ⟨a, o', h1, h2, h3, h4, h5⟩ := re.ow i s q w
    have h5 : upd W.G D o a = none := h5
    have e : a ≠ D := fun z => by rw [z, upd_same] at h5; cases h5
    rw [upd_ne e] at h5
    exact ⟨a, o', h1, by rw [upd_ne e]; exact h2, h3, h4, h5⟩
  ap := re.ap
  pin := re.pin
theorem RE.hidden {D : Addr} {o : HO} (re : RE K { W with G := upd W.G D o } Hs H σ δ) (i : Nat) (s : Sl) (q : δ[i]? = some s) (w : s.own = true) : σ[i]? ≠ some (some (V.ref D)) := fun z => by
  obtain ⟨a, o', h1, h2, h3, h4, h5⟩ := re.ow i s q w
  rw [h1] at z
  cases z
  have h5 : upd W.G D o D = none := h5
  rw [upd_same] at h5
  cases h5
end
def mWipe (vs : List Nat) : M Unit := fun δ => .ok () (wipeE δ vs)
def compL (vs : List Nat) (g : D → M Unit) (mt : M Bool) (me : M D) : List D → M (List D)
  | [] => mPure []
  | d :: ds => fun δ => match g d δ with
    | .ok _ δ1 => mBind mt (fun b => if b then mBind me (fun y => mBind (mWipe vs) fun _ => mBind (compL vs g mt me ds) fun ys => mPure (y :: ys)) else mBind (mWipe vs) fun _ => compL vs g mt me ds) δ1
    | _ => .bad
def compE (vs : List Nat) (g : D → M Unit) (mt : M Bool) (me : M D) (ds : List D) : M (List D) := fun δ =>
  if (vs.all fun i => !(δ.getD i .no).own) = true ∧ ds.length ≤ sizeLine then
    match compL vs g mt me ds (wipeE δ vs) with
    | .ok ys δ2 => .ok ys (backE δ δ2 vs)
    | _ => .bad
  else .bad
def mComp (mi : M (List D)) (vs : List Nat) (g : D → M Unit) (mt : M Bool) (me : M D) : M (List D) := mBind mi (compE vs g mt me)
def mYes : M Bool := mPure true
end Dn
namespace Ds
open PySem PySem.Spec PyProof.Rows L2 Dn
inductive All2 {α β : Type} (R : α → β → Prop) : List α → List β → Prop where
  | nil : All2 R [] []
  | cons {a : α} {b : β} {as : List α} {bs : List β} : R a b → All2 R as bs → All2 R (a :: as) (b :: bs)
namespace All2
variable {α β : Type} {R S : α → β → Prop}
theorem imp (k : ∀ a b, R a b → S a b) : ∀ {as : List α} {bs : List β}, All2 R as bs → All2 S as bs
  | _, _, .nil => .nil
  | _, _, .cons h t => .cons (k _ _ h) (imp k t)
theorem length : ∀ {as : List α} {bs : List β}, All2 R as bs → as.length = bs.length
  | _, _, .nil => rfl
  | _, _, .cons _ t => by rw [List.length_cons, List.length_cons, length t]
theorem get : ∀ {as : List α} {bs : List β} {i : Nat} {b : β}, All2 R as bs → bs[i]? = some b → ∃ a, as[i]? = some a ∧ R a b
  | _, _, i, d, .nil, e => by simp at e
  | _, _, 0, d, .cons h _, e => by simp at e; subst e; exact ⟨_, rfl, h⟩
  | _, _, i + 1, d, .cons _ t, e => by
    obtain ⟨v, h1, h2⟩ := get (i := i) t (by simpa using e)
    exact ⟨v, by simpa using h1, h2⟩
theorem append : ∀ {as as' : List α} {bs bs' : List β}, All2 R as bs → All2 R as' bs' → All2 R (as ++ as') (bs ++ bs')
  | _, _, _, _, .nil, s => s
  | _, _, _, _, .cons h t, s => .cons h (append t s)
theorem snoc {as : List α} {bs : List β} {a : α} {b : β} (h : All2 R as bs) (r : R a b) : All2 R (as ++ [a]) (bs ++ [b]) := h.append (.cons r .nil)
theorem set {a : α} {b : β} (r : R a b) : ∀ {as : List α} {bs : List β} (i : Nat), All2 R as bs → All2 R (as.set i a) (bs.set i b)
  | _, _, _, .nil => .nil
  | _, _, 0, .cons _ t => .cons r t
  | _, _, i + 1, .cons h t => .cons h (set r i t)
theorem erase : ∀ {as : List α} {bs : List β} (i : Nat), All2 R as bs → All2 R (as.eraseIdx i) (bs.eraseIdx i)
  | _, _, _, .nil => .nil
  | _, _, 0, .cons _ t => t
  | _, _, i + 1, .cons h t => .cons h (erase i t)
theorem take : ∀ {as : List α} {bs : List β} (n : Nat), All2 R as bs → All2 R (as.take n) (bs.take n)
  | _, _, 0, _ => .nil
  | _, _, _ + 1, .nil => .nil
  | _, _, n + 1, .cons h t => .cons h (take n t)
theorem drop : ∀ {as : List α} {bs : List β} (n : Nat), All2 R as bs → All2 R (as.drop n) (bs.drop n)
  | _, _, 0, h => h
  | _, _, _ + 1, .nil => .nil
  | _, _, n + 1, .cons _ t => drop n t
theorem imp_mem : ∀ {as : List α} {bs : List β}, All2 R as bs → (∀ a b, b ∈ bs → R a b → S a b) → All2 S as bs
  | _, _, .nil, _ => .nil
  | _, _, .cons h t, k => .cons (k _ _ List.mem_cons_self h) (imp_mem t fun a b m => k a b (List.mem_cons_of_mem _ m))
end All2
theorem nodup_at {α : Type} {a : α} : ∀ {l : List α} {i j : Nat}, l.Nodup → l[i]? = some a → l[j]? = some a → i = j
  | [], i, j, _, h, _ => by simp at h
  | b :: l, 0, 0, _, _, _ => rfl
  | b :: l, 0, j + 1, n, h, h' => by
    have e : b = a := by simpa using h
    subst e
    exact absurd (List.mem_of_getElem? (l := l) (i := j) (by simpa using h')) (List.nodup_cons.mp n).1
  | b :: l, i + 1, 0, n, h, h' => by
    have e : b = a := by simpa using h'
    subst e
    exact absurd (List.mem_of_getElem? (l := l) (i := i) (by simpa using h)) (List.nodup_cons.mp n).1
  | b :: l, i + 1, j + 1, n, h, h' => by
    rw [nodup_at (List.nodup_cons.mp n).2 (i := i) (j := j) (by simpa using h) (by simpa using h')]
/-- what a name, an item, a field holds: nothing said, data, a thing of the store -/
inductive Cl where
  | no
  | sh (d : D)
  | lo (l : Nat)
  | tp (cs : List Cl)
/-- things that change -/
inductive Ob where
  | gone
  | lst (xs : List Cl)
  | dk (kvs : List (Key × Cl))
  | dt (kvs : List (List Key × Cl))
  | ft (kvs : List (List Key × Cl))
  | fk (kvs : List (Key × Cl))
  | ins (c : Str) (fs : List (Str × Cl))
def Ob.live : Ob → Bool
  | .gone => false
  | .ft _ => false
  | .fk _ => false
  | _ => true
/-- locked -/
def Ob.fzd : Ob → Bool
  | .ft _ => true
  | .fk _ => true
  | _ => false
structure Sx where
  e : List Cl
  s : List Ob
inductive Res (α : Type) where
  | ok (a : α) (x : Sx)
  | exc (y : Exn) (x : Sx)
  | bad
abbrev M (α : Type) := Sx → Res α
def mPure {α : Type} (a : α) : M α := fun x => .ok a x
def mBind {α β : Type} (m : M α) (f : α → M β) : M β := fun x => match m x with
  | .ok a x' => f a x'
  | .exc y x' => .exc y x'
  | .bad => .bad
def mOpt {α : Type} (o : Option α) : M α := fun x => match o with
  | some a => .ok a x
  | none => .bad
/-- where the store's things lie, and what never changes -/
structure Gh where
  r : List Addr
  h : Hp
structure Le (g g' : Gh) : Prop where
  r : ∀ (l : Nat) (a : Addr), g.r[l]? = some a → g'.r[l]? = some a
  h : Ex g.h g'.h
theorem Le.refl (g : Gh) : Le g g := ⟨fun _ _ h => h, Ex.refl _⟩
theorem Le.trans {g g1 g2 : Gh} (a : Le g g1) (b : Le g1 g2) : Le g g2 := ⟨fun l x h => b.r l x (a.r l x h), a.h.trans b.h⟩
mutual
inductive CR (K : Frag) (g : Gh) : V → Cl → Prop where
  | sh {v : V} {d : D} : Rp K g.h v d → CR K g v (.sh d)
  | lo {l : Nat} {a : Addr} : g.r[l]? = some a → CR K g (.ref a) (.lo l)
  | tp {a : Addr} {vs : List V} {cs : List Cl} : StT K g.h a vs → CRt K g vs cs → CR K g (.ref a) (.tp cs)
inductive CRt (K : Frag) (g : Gh) : List V → List Cl → Prop where
  | nil : CRt K g [] []
  | cons {v : V} {c : Cl} {vs : List V} {cs : List Cl} : CR K g v c → CRt K g vs cs → CRt K g (v :: vs) (c :: cs)
end
theorem CRt.a {K : Frag} {g : Gh} : ∀ {vs : List V} {cs : List Cl}, CRt K g vs cs → All2 (CR K g) vs cs
  | _, _, .nil => .nil
  | _, _, .cons h t => .cons h (CRt.a t)
theorem CRt.of {K : Frag} {g : Gh} : ∀ {vs : List V} {cs : List Cl}, All2 (CR K g) vs cs → CRt K g vs cs
  | _, _, .nil => .nil
  | _, _, .cons h t => .cons h (CRt.of t)
def clsA (K : Frag) (c : Str) : Option Addr := match PySem.W.nsIn K mainGlobals c with
  | some (some (.ref a)) => some a
  | _ => none
inductive ObR (K : Frag) (g : Gh) : Ob → HO → Prop where
  | lst {xs : List Cl} {vs : List V} : All2 (CR K g) vs xs → ObR K g (.lst xs) (.lst vs)
  | dk {xs : List (Key × Cl)} {vs : List (Key × V)} : All2 (fun p q => p.1 = q.1 ∧ CR K g p.2 q.2) vs xs → ObR K g (.dk xs) (.dK vs)
  | dt {xs : List (List Key × Cl)} {vs : List (List Key × V)} : All2 (fun p q => p.1 = q.1 ∧ CR K g p.2 q.2) vs xs → ObR K g (.dt xs) (.dT vs)
  | ins {c : Str} {C dx : Addr} {xs : List (Str × Cl)} {vs : List (Str × V)} : clsA K c = some C → All2 (fun p q => p.1 = q.1 ∧ CR K g p.2 q.2) vs xs → ObR K g (.ins c xs) (.ins C dx vs)
/-- what is locked -/
inductive FzR (K : Frag) (g : Gh) : Ob → HO → Prop where
  | ft {xs : List (List Key × Cl)} {vs : List (List Key × V)} : All2 (fun p q => p.1 = q.1 ∧ CR K g p.2 q.2) vs xs → FzR K g (.ft xs) (.dT vs)
  | fk {xs : List (Key × Cl)} {vs : List (Key × V)} : All2 (fun p q => p.1 = q.1 ∧ CR K g p.2 q.2) vs xs → FzR K g (.fk xs) (.dK vs)
theorem fz_not {K : Frag} {g : Gh} {o : Ob} {u : HO} (h : ObR K g o u) (k : o.fzd = true) : False := by cases h <;> cases k
section
variable {K : Frag} {g g' : Gh}
mutual
theorem CR.le (e : Le g g') : ∀ {v : V} {c : Cl}, CR K g v c → CR K g' v c
  | _, _, .sh h => .sh (h.ex e.h)
  | _, _, .lo h => .lo (e.r _ _ h)
  | _, _, .tp h t => .tp (h.ex e.h) (CRt.le e t)
theorem CRt.le (e : Le g g') : ∀ {vs : List V} {cs : List Cl}, CRt K g vs cs → CRt K g' vs cs
  | _, _, .nil => .nil
  | _, _, .cons h t => .cons (CR.le e h) (CRt.le e t)
end
theorem CRs.le (e : Le g g') {vs : List V} {cs : List Cl} (h : All2 (CR K g) vs cs) : All2 (CR K g') vs cs := h.imp fun _ _ => CR.le e
theorem FzR.le (e : Le g g') : ∀ {o : Ob} {u : HO}, FzR K g o u → FzR K g' o u
  | _, _, .ft h => .ft (h.imp fun _ _ h => ⟨h.1, h.2.le e⟩)
  | _, _, .fk h => .fk (h.imp fun _ _ h => ⟨h.1, h.2.le e⟩)
theorem ObR.le (e : Le g g') : ∀ {o : Ob} {u : HO}, ObR K g o u → ObR K g' o u
  | _, _, .lst h => .lst (h.imp fun _ _ => CR.le e)
  | _, _, .dk h => .dk (h.imp fun _ _ h => ⟨h.1, h.2.le e⟩)
  | _, _, .dt h => .dt (h.imp fun _ _ h => ⟨h.1, h.2.le e⟩)
  | _, _, .ins c h => .ins c (h.imp fun _ _ h => ⟨h.1, h.2.le e⟩)
end
/-- slots, store and heap agree; G: what others hold -/
structure RE (K : Frag) (G : Hp) (g : Gh) (H : Hp) (σ : L2.St) (δ : Sx) : Prop where
  ex : Ex g.h H
  fg : ∀ a o, G a = some o → H a = some o ∧ g.h a = none ∧ a ∉ g.r
  len : σ.length = δ.e.length
  rl : g.r.length = δ.s.length
  sl : ∀ (i : Nat) (c : Cl), δ.e[i]? = some c → c ≠ .no → ∃ v : V, σ[i]? = some (some v) ∧ CR K g v c
  ob : ∀ (l : Nat) (o : Ob), δ.s[l]? = some o → o.live = true → ∃ (a : Addr) (u : HO), g.r[l]? = some a ∧ H a = some u ∧ ObR K g o u ∧ g.h a = none
  nd : g.r.Nodup
  al : ∀ a ∈ g.r, H a ≠ none
  nt : ∀ a xs, H a = some (.tup xs) → a ∉ g.r ∧ G a = none
  gx : ∀ a fs, G a ≠ some (.xd fs)
  fz : ∀ (l : Nat) (o : Ob), δ.s[l]? = some o → o.fzd = true → ∃ (a : Addr) (od : Obj) (u : HO), g.r[l]? = some a ∧ g.h a = some (.frz od u) ∧ FzR K g o u
/-- new stable things: fresh ones, or tuples that stand already -/
structure Gs (Hs H Hs' H' : Hp) : Prop where
  s : Ex Hs Hs'
  h : Ex H H'
  i : Ex Hs' H'
  f : ∀ a, H a ≠ none → Hs' a = Hs a ∨ ∃ ys, H a = some (.tup ys)
theorem Gs.of {Hs H Hs' H' : Hp} (g : Gr Hs H Hs' H') : Gs Hs H Hs' H' := ⟨g.s, g.h, g.i, fun a h => .inl (g.f a h)⟩
theorem Gs.trans {Hs H Hs' H' Hs2 H2 : Hp} (a : Gs Hs H Hs' H') (b : Gs Hs' H' Hs2 H2) : Gs Hs H Hs2 H2 := ⟨a.s.trans b.s, a.h.trans b.h, b.i, fun c hc => by
  cases q : H c with
  | none => exact absurd q hc
  | some o =>
    have q' := a.h c o q
    rcases a.f c hc with z | ⟨ys, z⟩
    · rcases b.f c (by rw [q']; simp) with w | ⟨ys, w⟩
      · exact .inl (w.trans z)
      · rw [q'] at w
        exact .inr ⟨ys, w⟩
    · rw [q] at z
      exact .inr ⟨ys, z⟩⟩
structure Grw (g : Gh) (H : Hp) (g' : Gh) (H' : Hp) : Prop where
  q : g'.r = g.r
  g : Gs g.h H g'.h H'
theorem Grw.le {g g' : Gh} {H H' : Hp} (a : Grw g H g' H') : Le g g' := ⟨fun l x h => by rw [a.q]; exact h, a.g.s⟩
theorem Grw.refl {g : Gh} {H : Hp} (e : Ex g.h H) : Grw g H g H := ⟨rfl, .of (.refl e)⟩
theorem Grw.new {g : Gh} {H : Hp} {p : Addr} {o : HO} (e : Ex g.h H) (h : H p = none) : Grw g H ⟨g.r, upd g.h p o⟩ (upd H p o) := ⟨rfl, .of (Gr.new e h)⟩
theorem Grw.of {g : Gh} {H Hs' H' : Hp} (a : Gr g.h H Hs' H') : Grw g H ⟨g.r, Hs'⟩ H' := ⟨rfl, .of a⟩
theorem Grw.ofS {g : Gh} {H Hs' H' : Hp} (a : Gs g.h H Hs' H') : Grw g H ⟨g.r, Hs'⟩ H' := ⟨rfl, a⟩
theorem Grw.trans {g g1 g2 : Gh} {H H1 H2 : Hp} (a : Grw g H g1 H1) (b : Grw g1 H1 g2 H2) : Grw g H g2 H2 := ⟨b.q.trans a.q, a.g.trans b.g⟩
section
variable {K : Frag} {G : Hp} {g g' : Gh} {H H' : Hp} {σ σ' : L2.St} {δ δ' : Sx} {e e' : List Cl} {s s' : List Ob}
theorem RE.grow (r : RE K G g H σ δ) (w : Grw g H g' H') : RE K G g' H' σ δ where
  ex := w.g.i
  fg := fun a o q => by
    obtain ⟨h1, h2, h3⟩ := r.fg a o q
    refine ⟨w.g.h a o h1, ?_, by rw [w.q]; exact h3⟩
    rcases w.g.f a (by rw [h1]; simp) with z | ⟨ys, z⟩
    · rw [z, h2]
    · rw [(r.nt a ys z).2] at q; cases q
  len := r.len
  rl := by rw [w.q]; exact r.rl
  sl := fun i c q hc => by
    obtain ⟨v, h1, h2⟩ := r.sl i c q hc
    exact ⟨v, h1, h2.le w.le⟩
  ob := fun l o q hl => by
    obtain ⟨a, u, h1, h2, h3, h4⟩ := r.ob l o q hl
    refine ⟨a, u, by rw [w.q]; exact h1, w.g.h a u h2, h3.le w.le, ?_⟩
    rcases w.g.f a (by rw [h2]; simp) with z | ⟨ys, z⟩
    · rw [z, h4]
    · exact absurd (List.mem_of_getElem? h1) (r.nt a ys z).1
  nd := by rw [w.q]; exact r.nd
  al := fun a ha => by
    rw [w.q] at ha
    have := r.al a ha
    cases q : H a with
    | none => exact absurd q this
    | some o => rw [w.g.h a o q]; simp
  nt := fun a xs q => by
    refine ⟨fun ha => ?_, ?_⟩
    · rw [w.q] at ha
      cases z : H a with
      | none => exact r.al a ha z
      | some o =>
        have := w.g.h a o z
        rw [q] at this
        cases this
        exact (r.nt a xs z).1 ha
    · cases z : G a with
      | none => rfl
      | some o =>
        have h1 := (r.fg a o z).1
        have := w.g.h a o h1
        rw [q] at this
        cases this
        rw [(r.nt a xs h1).2] at z
        cases z
  gx := r.gx
  fz := fun l o q hz => by
    obtain ⟨a, od, u, h1, h2, h3⟩ := r.fz l o q hz
    exact ⟨a, od, u, by rw [w.q]; exact h1, w.g.s _ _ h2, h3.le w.le⟩
/-- other slots, the same store -/
theorem RE.slots (r : RE K G g H σ δ) {σ' : L2.St} {e' : List Cl} (hl : σ'.length = e'.length) (h : ∀ (i : Nat) (c : Cl), e'[i]? = some c → c ≠ .no → ∃ v : V, σ'[i]? = some (some v) ∧ CR K g v c) : RE K G g H σ' ⟨e', δ.s⟩ where
  ex := r.ex
  fg := r.fg
  len := hl
  rl := r.rl
  sl := h
  ob := r.ob
  nd := r.nd
  al := r.al
  nt := r.nt
  gx := r.gx
  fz := r.fz
/-- a slot that says nothing may hold anything -/
theorem RE.sig (r : RE K G g H σ δ) (hl : σ'.length = σ.length) (h : ∀ (i : Nat) (c : Cl), δ.e[i]? = some c → c ≠ .no → σ'[i]? = σ[i]?) : RE K G g H σ' δ :=
  r.slots (σ' := σ') (e' := δ.e) (hl.trans r.len) fun i c q hc => by rw [h i c q hc]; exact r.sl i c q hc
/-- less is said -/
theorem RE.less (r : RE K G g H σ δ) {e' : List Cl} (hl : e'.length = δ.e.length) (h : ∀ (i : Nat) (c : Cl), e'[i]? = some c → c = Cl.no ∨ δ.e[i]? = some c) : RE K G g H σ ⟨e', δ.s⟩ :=
  r.slots (r.len.trans hl.symm) fun i c q hc => r.sl i c ((h i c q).resolve_left hc) hc
theorem RE.set {v : V} {c : Cl} {i : Nat} (r : RE K G g H σ δ) (h : CR K g v c) : RE K G g H (σ.set i (some v)) ⟨δ.e.set i c, δ.s⟩ :=
  r.slots (by rw [List.length_set, List.length_set]; exact r.len) fun j d q hd => by
    rcases setGet q with ⟨rfl, z⟩ | ⟨hj, z⟩
    · subst z
      have hl := set_lt q
      exact ⟨v, by rw [List.getElem?_set_self (by rw [r.len]; exact hl)], h⟩
    · rw [List.getElem?_set_ne (Ne.symm hj)]
      exact r.sl j d z hd
/-- only the store and the heap -/
theorem RE.bare (r : RE K G g H σ δ) : RE K G g H [] ⟨[], δ.s⟩ := r.slots rfl fun i c q => by simp at q
theorem RE.lift (r : RE K G g H σ δ) (e : Le g g') (r' : RE K G g' H' σ' δ') : RE K G g' H' σ ⟨δ.e, δ'.s⟩ :=
  r'.slots r.len fun i c q hc => by
    obtain ⟨v, h1, h2⟩ := r.sl i c q hc
    exact ⟨v, h1, h2.le e⟩
theorem RE.nin (r : RE K G g H σ δ) {p : Addr} (h : H p = none) : p ∉ g.r := fun z => r.al p z h
/-- new things that no name reaches -/
theorem RE.newH (r : RE K G g H σ δ) (e : Ex H H') : RE K G g H' σ δ := r.grow ⟨rfl, Ex.refl _, e, r.ex.trans e, fun _ _ => .inl rfl⟩
/-- a thing of the store changes in place -/
theorem RE.write {l : Nat} {a : Addr} {o o' : Ob} {u : HO} (r : RE K G g H σ δ) (hl : δ.s[l]? = some o) (hv : o.live = true) (ha : g.r[l]? = some a) (hu : ObR K g o' u) : RE K G g (upd H a u) σ ⟨δ.e, δ.s.set l o'⟩ := by
  obtain ⟨b, w, h1, h2, h3, h4⟩ := r.ob l o hl hv
  rw [ha] at h1
  obtain rfl : a = b := Option.some.inj h1
  have hlt : l < δ.s.length := (List.getElem?_eq_some_iff.mp hl).1
  have inj : ∀ {l' : Nat}, g.r[l']? = some a → l' = l := fun {l'} q => by
    exact nodup_at r.nd q ha
  exact {
    ex := fun b v q => by
      have hb : b ≠ a := fun z => by rw [z, h4] at q; cases q
      rw [upd_ne hb]; exact r.ex b v q
    fg := fun b v q => by
      obtain ⟨f1, f2, f3⟩ := r.fg b v q
      have hb : b ≠ a := fun z => f3 (z ▸ List.mem_of_getElem? ha)
      exact ⟨by rw [upd_ne hb]; exact f1, f2, f3⟩
    len := r.len
    rl := by rw [r.rl]; simp
    sl := r.sl
    ob := fun l' o1 q hv1 => by
      rcases setGet q with ⟨rfl, z⟩ | ⟨hj, z⟩
      · subst z; exact ⟨a, u, ha, upd_same, hu, h4⟩
      · obtain ⟨b, v, f1, f2, f3, f4⟩ := r.ob l' o1 z hv1
        have hb : b ≠ a := fun z => hj (inj (z ▸ f1))
        exact ⟨b, v, f1, by rw [upd_ne hb]; exact f2, f3, f4⟩
    nd := r.nd
    al := fun b hb => by
      by_cases hba : b = a
      · subst hba; rw [upd_same]; simp
      · rw [upd_ne hba]; exact r.al b hb
    nt := fun b xs q => by
      by_cases hba : b = a
      · subst hba
        rw [upd_same] at q
        cases q
        cases hu
      · rw [upd_ne hba] at q; exact r.nt b xs q
    gx := r.gx
    fz := fun l' o1 q hz => by
      rcases setGet q with ⟨rfl, z⟩ | ⟨hj, z⟩
      · subst z; exact (fz_not hu hz).elim
      · exact r.fz l' o1 z hz }
/-- a fresh list that nothing reaches yet -/
structure FrO (K : Frag) (G : Hp) (g : Gh) (H : Hp) (a : Addr) (xs : List Cl) : Prop where
  at_ : ∃ vs, H a = some (.lst vs) ∧ All2 (CR K g) vs xs
  hs : g.h a = none
  gg : G a = none
  nr : a ∉ g.r
/-- any fresh thing -/
structure Fro (K : Frag) (G : Hp) (g : Gh) (H : Hp) (a : Addr) (o : Ob) : Prop where
  at_ : ∃ u, H a = some u ∧ ObR K g o u
  hs : g.h a = none
  gg : G a = none
  nr : a ∉ g.r
theorem FrO.fro {a : Addr} {xs : List Cl} (f : FrO K G g H a xs) : Fro K G g H a (.lst xs) := by
  obtain ⟨⟨vs, h1, h2⟩, b, c, d⟩ := f
  exact ⟨⟨_, h1, .lst h2⟩, b, c, d⟩
/-- .. becomes one of the store's -/
theorem RE.alloc {a : Addr} {o : Ob} (r : RE K G g H σ δ) (f : Fro K G g H a o) : Le g ⟨g.r ++ [a], g.h⟩ ∧ RE K G ⟨g.r ++ [a], g.h⟩ H σ ⟨δ.e, δ.s ++ [o]⟩ := by
  have le : Le g ⟨g.r ++ [a], g.h⟩ := ⟨fun l b h => by
    have := (List.getElem?_eq_some_iff.mp h).1
    show (g.r ++ [a])[l]? = some b
    rw [List.getElem?_append_left this]; exact h, Ex.refl _⟩
  obtain ⟨⟨u, h1, h2⟩, b, c, d⟩ := f
  refine ⟨le, ?_⟩
  exact {
    ex := r.ex
    fg := fun b v q => by
      obtain ⟨f1, f2, f3⟩ := r.fg b v q
      refine ⟨f1, f2, fun z => ?_⟩
      rcases List.mem_append.mp z with z | z
      · exact f3 z
      · simp at z; subst z; rw [c] at q; cases q
    len := r.len
    rl := by simp [r.rl]
    sl := fun i k q hk => by
      obtain ⟨v, f1, f2⟩ := r.sl i k q hk
      exact ⟨v, f1, f2.le le⟩
    ob := fun l o1 q hv1 => by
      by_cases hl : l < δ.s.length
      · rw [List.getElem?_append_left hl] at q
        obtain ⟨b, v, f1, f2, f3, f4⟩ := r.ob l o1 q hv1
        exact ⟨b, v, le.r _ _ f1, f2, f3.le le, f4⟩
      · have hl' : l = δ.s.length := by
          have := (List.getElem?_eq_some_iff.mp q).1
          simp at this
          omega
        subst hl'
        rw [List.getElem?_append_right (Nat.le_refl _), Nat.sub_self] at q
        have q : o = o1 := Option.some.inj q
        subst q
        refine ⟨a, u, ?_, h1, h2.le le, b⟩
        show (g.r ++ [a])[δ.s.length]? = some a
        rw [← r.rl, List.getElem?_append_right (Nat.le_refl _), Nat.sub_self]
        rfl
    nd := List.nodup_append.mpr ⟨r.nd, by simp, fun x hx y hy => by
      simp at hy; subst hy
      exact fun z => d (z ▸ hx)⟩
    al := fun b hb => by
      rcases List.mem_append.mp hb with z | z
      · exact r.al b z
      · simp at z; subst z; rw [h1]; simp
    nt := fun b xs q => by
      have hba : b ≠ a := fun z => by
        subst z
        rw [h1] at q
        cases q
        cases h2
      obtain ⟨k1, k2⟩ := r.nt b xs q
      refine ⟨fun z => ?_, k2⟩
      rcases List.mem_append.mp z with z | z
      · exact k1 z
      · simp at z; exact hba z
    gx := r.gx
    fz := fun l o1 q hz => by
      by_cases hl : l < δ.s.length
      · rw [List.getElem?_append_left hl] at q
        obtain ⟨b, o', vs, f1, f2, f3⟩ := r.fz l o1 q hz
        exact ⟨b, o', vs, le.r _ _ f1, f2, f3.le le⟩
      · have hl' : l = δ.s.length := by
          have := (List.getElem?_eq_some_iff.mp q).1
          simp at this
          omega
        subst hl'
        rw [List.getElem?_append_right (Nat.le_refl _), Nat.sub_self] at q
        have q : o = o1 := Option.some.inj q
        subst q
        exact (fz_not h2 hz).elim }
/-- all of them data -/
def shL : List Cl → Option (List D)
  | [] => some []
  | .sh d :: cs => (shL cs).map (d :: ·)
  | _ :: _ => none
theorem shL_rps : ∀ {vs : List V} {cs : List Cl} {ds : List D}, All2 (CR K g) vs cs → shL cs = some ds → Rps K g.h vs ds
  | _, _, ds, .nil, h => by obtain rfl := Option.some.inj h; exact .nil
  | _, _, ds, .cons (b := .sh d) (bs := cs) (.sh r) t, h => by
    unfold shL at h
    cases z : shL cs with
    | none => rw [z] at h; simp at h
    | some es =>
      rw [z] at h
      have e : d :: es = ds := by simpa using h
      subst e
      exact .cons r (shL_rps t z)
  | _, _, ds, .cons (.lo r) t, h => by simp [shL] at h
theorem rps_cr : ∀ {vs : List V} {ds : List D}, Rps K g.h vs ds → All2 (CR K g) vs (ds.map Cl.sh)
  | _, _, .nil => .nil
  | _, _, .cons h t => .cons (.sh h) (rps_cr t)
theorem ex_upd' {p : Addr} {u : HO} {Hs : Hp} (e : Ex Hs H) (h : H p = some u) : Ex (upd Hs p u) H := fun c w z => by
  by_cases hc : c = p
  · subst hc; rw [upd_same] at z; cases z; exact h
  · rw [upd_ne hc] at z; exact e c w z
/-- a fresh list becomes data -/
theorem RE.freeze {a : Addr} {xs : List Cl} {ds : List D} (r : RE K G g H σ δ) (f : FrO K G g H a xs) (hd : shL xs = some ds) : ∃ g', Le g g' ∧ g'.r = g.r ∧ RE K G g' H σ δ ∧ Rp K g'.h (.ref a) (.list ds) := by
  obtain ⟨vs, h1, h2⟩ := f.at_
  have e : Ex g.h (upd g.h a (.lst vs)) := ex_new f.hs
  have le : Le g ⟨g.r, upd g.h a (.lst vs)⟩ := ⟨fun _ _ h => h, e⟩
  refine ⟨⟨g.r, upd g.h a (.lst vs)⟩, le, rfl, ?_, .lst (SqL.of upd_same) ((shL_rps h2 hd).ex e)⟩
  exact {
    ex := ex_upd' r.ex h1
    fg := fun b o q => by
      obtain ⟨f1, f2, f3⟩ := r.fg b o q
      have hb : b ≠ a := fun z => by rw [z, f.gg] at q; cases q
      exact ⟨f1, by show upd g.h a _ b = none; rw [upd_ne hb]; exact f2, f3⟩
    len := r.len
    rl := r.rl
    sl := fun i c q hc => by
      obtain ⟨v, q1, q2⟩ := r.sl i c q hc
      exact ⟨v, q1, q2.le le⟩
    ob := fun l o q hl => by
      obtain ⟨b, u, q1, q2, q3, q4⟩ := r.ob l o q hl
      have hb : b ≠ a := fun z => f.nr (z ▸ List.mem_of_getElem? q1)
      exact ⟨b, u, q1, q2, q3.le le, by show upd g.h a _ b = none; rw [upd_ne hb]; exact q4⟩
    nd := r.nd
    al := r.al
    nt := r.nt
    gx := r.gx
    fz := fun l o q hz => by
      obtain ⟨b, o', vs', f1, f2, f3⟩ := r.fz l o q hz
      exact ⟨b, o', vs', f1, e _ _ f2, f3.le le⟩ }
/-- a list of the store becomes data: it is the store's no more -/
theorem RE.seal {l : Nat} {a : Addr} {xs : List Cl} {ds : List D} (r : RE K G g H σ δ) (hl : δ.s[l]? = some (.lst xs)) (ha : g.r[l]? = some a) (hd : shL xs = some ds) : ∃ g', Le g g' ∧ g'.r = g.r ∧ RE K G g' H σ ⟨δ.e, δ.s.set l .gone⟩ ∧ Rp K g'.h (.ref a) (.list ds) := by
  obtain ⟨b, w, h1, h2, h3, h4⟩ := r.ob l _ hl rfl
  rw [ha] at h1
  obtain rfl : a = b := Option.some.inj h1
  cases h3 with
  | lst h3 =>
    rename_i vs
    have e : Ex g.h (upd g.h a (.lst vs)) := ex_new h4
    have le : Le g ⟨g.r, upd g.h a (.lst vs)⟩ := ⟨fun _ _ h => h, e⟩
    refine ⟨⟨g.r, upd g.h a (.lst vs)⟩, le, rfl, ?_, .lst (SqL.of upd_same) ((shL_rps h3 hd).ex e)⟩
    have inj : ∀ {l' : Nat}, g.r[l']? = some a → l' = l := fun {l'} q => by
      exact nodup_at r.nd q ha
    exact {
      ex := ex_upd' r.ex h2
      fg := fun b o q => by
        obtain ⟨f1, f2, f3⟩ := r.fg b o q
        have hb : b ≠ a := fun z => f3 (z ▸ List.mem_of_getElem? ha)
        exact ⟨f1, by show upd g.h a _ b = none; rw [upd_ne hb]; exact f2, f3⟩
      len := r.len
      rl := by rw [r.rl]; simp
      sl := fun i c q hc => by
        obtain ⟨v, q1, q2⟩ := r.sl i c q hc
        exact ⟨v, q1, q2.le le⟩
      ob := fun l' o q hlv => by
        rcases setGet q with ⟨rfl, z⟩ | ⟨hj, z⟩
        · subst z; cases hlv
        · obtain ⟨b, u, q1, q2, q3, q4⟩ := r.ob l' o z hlv
          have hb : b ≠ a := fun z => hj (inj (z ▸ q1))
          exact ⟨b, u, q1, q2, q3.le le, by show upd g.h a _ b = none; rw [upd_ne hb]; exact q4⟩
      nd := r.nd
      al := r.al
      nt := r.nt
      gx := r.gx
      fz := fun l' o q hz => by
        rcases setGet q with ⟨rfl, z⟩ | ⟨hj, z⟩
        · subst z; cases hz
        · obtain ⟨b, o', vs', f1, f2, f3⟩ := r.fz l' o z hz
          exact ⟨b, o', vs', f1, e _ _ f2, f3.le le⟩ }
end
end Ds
namespace Ds
open PySem PySem.Spec PyProof.Rows L2 Dn
def Post {α : Type} (K : Frag) (E : XQ) (G : Hp) (g : Gh) (σ : L2.St) (r : Res α) (Q : α → Gh → Hp → Sx → Prop) : Prop :=
  match r with
  | .ok a δ' => ∀ g' H', Le g g' → RE K G g' H' σ δ' → Q a g' H' δ'
  | .exc x δ' => ∀ g' H', Le g g' → RE K G g' H' σ δ' → E x σ H'
  | .bad => False
theorem Post.ex {α : Type} {K : Frag} {E : XQ} {G : Hp} {g g1 : Gh} {σ : L2.St} {r : Res α} {Q : α → Gh → Hp → Sx → Prop} (h : Post K E G g σ r Q) (e : Le g g1) : Post K E G g1 σ r Q := by
  cases r with
  | ok a δ' => exact fun g' H' e' r => h g' H' (e.trans e') r
  | exc x δ' => exact fun g' H' e' r => h g' H' (e.trans e') r
  | bad => exact h
theorem Post.of {α : Type} {K : Frag} {E : XQ} {G : Hp} {g : Gh} {H : Hp} {σ : L2.St} {a : α} {δ : Sx} {Q : α → Gh → Hp → Sx → Prop} (h : Post K E G g σ (.ok a δ) Q) (r : RE K G g H σ δ) : Q a g H δ := h g H (Le.refl _) r
theorem Post.grow {α : Type} {K : Frag} {E : XQ} {G : Hp} {g g' : Gh} {H H' : Hp} {σ : L2.St} {a : α} {δ : Sx} {Q : α → Gh → Hp → Sx → Prop} (h : Post K E G g σ (.ok a δ) Q) (r : RE K G g H σ δ) (w : Grw g H g' H') : Q a g' H' δ :=
  h g' H' w.le (r.grow w)
theorem Post.mono {α : Type} {K : Frag} {E : XQ} {G : Hp} {g : Gh} {σ : L2.St} {r : Res α} {Q Q' : α → Gh → Hp → Sx → Prop} (h : Post K E G g σ r Q) (k : ∀ a g' H' δ', Q a g' H' δ' → Q' a g' H' δ') : Post K E G g σ r Q' := by
  cases r with
  | ok a δ' => exact fun g' H' e r => k _ _ _ _ (h g' H' e r)
  | exc x δ' => exact h
  | bad => exact h
def Cf {α : Type} (K : Frag) (E : XQ) (m : M α) (σ : L2.St) (H : Hp) (Q : Hp → α → Gh → Hp → Sx → Prop) : Prop :=
  ∃ (G : Hp) (g : Gh) (δ : Sx), RE K G g H σ δ ∧ Post K E G g σ (m δ) (Q G)
/-- data -/
def tOf (K : Frag) (E : XQ) (m : M D) : TE := fun σ H Q => Cf K E m σ H fun _ d g' H' _ => ∀ v, Rp K g'.h v d → Q v H'
def tOfT (K : Frag) (E : XQ) (m : M Bool) : TT := fun σ H Q => Cf K E m σ H fun _ b _ H' _ => Q b H'
/-- a thing of the store -/
def tOfL (K : Frag) (E : XQ) (m : M Nat) : TE := fun σ H Q => Cf K E m σ H fun _ l g' H' _ => ∀ a, g'.r[l]? = some a → Q (.ref a) H'
/-- either -/
def tOfC (K : Frag) (E : XQ) (m : M Cl) : TE := fun σ H Q => Cf K E m σ H fun _ c g' H' _ => ∀ v, CR K g' v c → Q v H'
/-- a fresh list -/
def tOfO (K : Frag) (E : XQ) (m : M (List Cl)) : TE := fun σ H Q => Cf K E m σ H fun G xs g' H' _ => ∀ a, FrO K G g' H' a xs → Q (.ref a) H'
def tOfA (K : Frag) (E : XQ) (m : M (List Cl)) : TA := fun σ H Q => Cf K E m σ H fun _ cs g' H' _ => ∀ vs, All2 (CR K g') vs cs → Q vs H'
section
variable {K : Frag} {E : XQ} {G : Hp} {g : Gh} {H : Hp} {σ : L2.St} {δ : Sx}
theorem Cf.step {α β : Type} {ma : M α} {f : α → M β} {QQ : β → Gh → Hp → Sx → Prop} {R : Hp → α → Gh → Hp → Sx → Prop} (re : RE K G g H σ δ) (po : Post K E G g σ (mBind ma f δ) QQ)
    (k : ∀ a g1 H1 δ1, Le g g1 → RE K G g1 H1 σ δ1 → Post K E G g1 σ (f a δ1) QQ → R G a g1 H1 δ1) : Cf K E ma σ H R := by
  refine ⟨G, g, δ, re, ?_⟩
  unfold mBind at po
  cases h : ma δ with
  | ok a δ1 =>
    rw [h] at po
    exact fun g' H' e r => k a g' H' δ1 e r (Post.ex po e)
  | exc x δ1 =>
    rw [h] at po
    exact po
  | bad =>
    rw [h] at po
    exact po
theorem tOf.step {β : Type} {ma : M D} {f : D → M β} {QQ : β → Gh → Hp → Sx → Prop} {R : V → Hp → Prop} (re : RE K G g H σ δ) (po : Post K E G g σ (mBind ma f δ) QQ)
    (k : ∀ v d g1 H1 δ1, Le g g1 → RE K G g1 H1 σ δ1 → Rp K g1.h v d → Post K E G g1 σ (f d δ1) QQ → R v H1) : tOf K E ma σ H R :=
  Cf.step re po fun d g1 H1 δ1 e r p v rv => k v d g1 H1 δ1 e r rv p
theorem tOfT.step {β : Type} {ma : M Bool} {f : Bool → M β} {QQ : β → Gh → Hp → Sx → Prop} {R : Bool → Hp → Prop} (re : RE K G g H σ δ) (po : Post K E G g σ (mBind ma f δ) QQ)
    (k : ∀ b g1 H1 δ1, Le g g1 → RE K G g1 H1 σ δ1 → Post K E G g1 σ (f b δ1) QQ → R b H1) : tOfT K E ma σ H R :=
  Cf.step re po k
theorem tOfL.step {β : Type} {ma : M Nat} {f : Nat → M β} {QQ : β → Gh → Hp → Sx → Prop} {R : V → Hp → Prop} (re : RE K G g H σ δ) (po : Post K E G g σ (mBind ma f δ) QQ)
    (k : ∀ a l g1 H1 δ1, Le g g1 → RE K G g1 H1 σ δ1 → g1.r[l]? = some a → Post K E G g1 σ (f l δ1) QQ → R (.ref a) H1) : tOfL K E ma σ H R :=
  Cf.step re po fun l g1 H1 δ1 e r p a ha => k a l g1 H1 δ1 e r ha p
theorem tOfC.step {β : Type} {ma : M Cl} {f : Cl → M β} {QQ : β → Gh → Hp → Sx → Prop} {R : V → Hp → Prop} (re : RE K G g H σ δ) (po : Post K E G g σ (mBind ma f δ) QQ)
    (k : ∀ v c g1 H1 δ1, Le g g1 → RE K G g1 H1 σ δ1 → CR K g1 v c → Post K E G g1 σ (f c δ1) QQ → R v H1) : tOfC K E ma σ H R :=
  Cf.step re po fun c g1 H1 δ1 e r p v rv => k v c g1 H1 δ1 e r rv p
theorem tOfA.step {β : Type} {ma : M (List Cl)} {f : List Cl → M β} {QQ : β → Gh → Hp → Sx → Prop} {R : List V → Hp → Prop} (re : RE K G g H σ δ) (po : Post K E G g σ (mBind ma f δ) QQ)
    (k : ∀ vs cs g1 H1 δ1, Le g g1 → RE K G g1 H1 σ δ1 → All2 (CR K g1) vs cs → Post K E G g1 σ (f cs δ1) QQ → R vs H1) : tOfA K E ma σ H R :=
  Cf.step re po fun cs g1 H1 δ1 e r p vs rv => k vs cs g1 H1 δ1 e r rv p
theorem tOfO.step {β : Type} {ma : M (List Cl)} {f : List Cl → M β} {QQ : β → Gh → Hp → Sx → Prop} {R : V → Hp → Prop} (re : RE K G g H σ δ) (po : Post K E G g σ (mBind ma f δ) QQ)
    (k : ∀ a xs g1 H1 δ1, Le g g1 → RE K G g1 H1 σ δ1 → FrO K G g1 H1 a xs → Post K E G g1 σ (f xs δ1) QQ → R (.ref a) H1) : tOfO K E ma σ H R :=
  Cf.step re po fun xs g1 H1 δ1 e r p a fa => k a xs g1 H1 δ1 e r fa p
theorem Cf.last {α : Type} {ma : M α} {R : Hp → α → Gh → Hp → Sx → Prop} (re : RE K G g H σ δ) (po : Post K E G g σ (ma δ) (R G)) : Cf K E ma σ H R := ⟨G, g, δ, re, po⟩
theorem Post.opt {α : Type} {o : Option α} {QQ : α → Gh → Hp → Sx → Prop} (po : Post K E G g σ (mOpt o δ) QQ) : ∃ a, o = some a ∧ Post K E G g σ (.ok a δ) QQ := by
  unfold mOpt at po
  cases o with
  | none => exact po.elim
  | some a => exact ⟨a, rfl, po⟩
theorem Post.optB {α β : Type} {o : Option α} {f : α → M β} {QQ : β → Gh → Hp → Sx → Prop} (po : Post K E G g σ (mBind (mOpt o) f δ) QQ) : ∃ a, o = some a ∧ Post K E G g σ (f a δ) QQ := by
  cases o with
  | none => exact po.elim
  | some a => exact ⟨a, rfl, po⟩
end
section
variable {X : Cx} {E : XQ} {a b e : Expr} {pos : Pos} {ma mb m : M D}
def mCl (i : Nat) : M Cl := fun δ => match δ.e[i]? with
  | some (.sh d) => .ok (.sh d) δ
  | some (.lo l) => .ok (.lo l) δ
  | _ => .bad
def toD : Cl → Option D
  | .sh d => some d
  | _ => none
def toL : Cl → Option Nat
  | .lo l => some l
  | _ => none
def mVar (i : Nat) : M D := fun δ => match δ.e[i]? with
  | some (.sh d) => .ok d δ
  | _ => .bad
def mLV (i : Nat) : M Nat := fun δ => match δ.e[i]? with
  | some (.lo l) => .ok l δ
  | _ => .bad
theorem je_var {i : Nat} {x : Str} (hN : X.N[i]? = some x) (hv : Vis X.env.scope x) (hd : (x == ("__debug__" : Str)) = false := by decide) (hcd : (x == ("__classdict__" : Str)) = false := by decide) : PE X (.Name x pos) (tOf X.K E (mVar i)) :=
  pe_imp (pe_var hN hv hd hcd) fun σ H Q ⟨G, g, δ, re, po⟩ => by
    unfold mVar at po
    split at po
    · rename_i d hd
      obtain ⟨v, h1, h2⟩ := re.sl i _ hd (by simp)
      cases h2 with
      | sh h2 => exact ⟨v, h1, po g H (Le.refl _) re v h2⟩
    · exact po.elim
theorem jl_var {i : Nat} {x : Str} (hN : X.N[i]? = some x) (hv : Vis X.env.scope x) (hd : (x == ("__debug__" : Str)) = false := by decide) (hcd : (x == ("__classdict__" : Str)) = false := by decide) : PE X (.Name x pos) (tOfL X.K E (mLV i)) :=
  pe_imp (pe_var hN hv hd hcd) fun σ H Q ⟨G, g, δ, re, po⟩ => by
    unfold mLV at po
    split at po
    · rename_i d hd
      obtain ⟨v, h1, h2⟩ := re.sl i _ hd (by simp)
      cases h2 with
      | lo h2 => exact ⟨_, h1, po g H (Le.refl _) re _ h2⟩
    · exact po.elim
/-- data or a thing, as a cell -/
def mSh (m : M D) : M Cl := mBind m fun d => mPure (.sh d)
def mLo (m : M Nat) : M Cl := mBind m fun l => mPure (.lo l)
theorem jc_sh (h : PE X e (tOf X.K E m)) : PE X e (tOfC X.K E (mSh m)) :=
  pe_imp h fun σ H Q ⟨G, g, δ, re, po⟩ => tOf.step re po fun v d g1 H1 δ1 e1 re1 r1 po1 => Post.of po1 re1 v (.sh r1)
theorem jc_lo {m : M Nat} (h : PE X e (tOfL X.K E m)) : PE X e (tOfC X.K E (mLo m)) :=
  pe_imp h fun σ H Q ⟨G, g, δ, re, po⟩ => tOfL.step re po fun a l g1 H1 δ1 e1 re1 r1 po1 => Post.of po1 re1 _ (.lo r1)
def mD (m : M Cl) : M D := mBind m fun c => mOpt (toD c)
def mL (m : M Cl) : M Nat := mBind m fun c => mOpt (toL c)
theorem je_cell {m : M Cl} (h : PE X e (tOfC X.K E m)) : PE X e (tOf X.K E (mD m)) :=
  pe_imp h fun σ H Q ⟨G, g, δ, re, po⟩ => tOfC.step re po fun v c g1 H1 δ1 e1 re1 r1 po1 => by
    obtain ⟨d, hd, po2⟩ := Post.opt po1
    cases r1 with
    | sh r => cases hd; exact Post.of po2 re1 v r
    | lo r => cases hd
    | tp r t => cases hd
theorem jl_cell {m : M Cl} (h : PE X e (tOfC X.K E m)) : PE X e (tOfL X.K E (mL m)) :=
  pe_imp h fun σ H Q ⟨G, g, δ, re, po⟩ => tOfC.step re po fun v c g1 H1 δ1 e1 re1 r1 po1 => by
    obtain ⟨d, hd, po2⟩ := Post.opt po1
    cases r1 with
    | sh r => cases hd
    | lo r => cases hd; exact Post.of po2 re1 _ r
    | tp r t => cases hd
/-- a constant -/
def mC (d : D) : M D := mPure d
theorem je_c {t : TE} {d : D} {v : V} (h : PE X e (tC v)) (hv : ∀ H, Rp X.K H v d) : PE X e (tOf X.K E (mC d)) :=
  pe_imp h fun σ H Q ⟨G, g, δ, re, po⟩ => Post.of po re v (hv g.h)
theorem je_int {i : Int} {j pos} : PE X (.Constant (.int i) j pos) (tOf X.K E (mC (.int i))) := je_c (t := tC (.int i)) pe_int fun _ => .int i
theorem je_bl {i : Bool} {j pos} : PE X (.Constant (.bool i) j pos) (tOf X.K E (mC (.bool i))) := je_c (t := tC (.bl i)) pe_bl fun _ => .bl i
theorem je_non {j pos} : PE X (.Constant .none j pos) (tOf X.K E (mC .none)) := je_c (t := tC .non) pe_non fun _ => .non
theorem je_str {x : Str} {j pos} : PE X (.Constant (.str x) j pos) (tOf X.K E (mC (.str x))) := je_c (t := tC (.str x)) pe_str fun _ => .str x
theorem je_glob {x : Str} {v : V} {u : Value} {d : D} (hg : Gl X x) (hm : X.mg x = some u) (r : RelV v u) (hv : ∀ H, Rp X.K H v d) (hd : (x == ("__debug__" : Str)) = false := by decide) : PE X (.Name x pos) (tOf X.K E (mC d)) := je_c (t := tC v) (pe_glob hg hm r hd) hv
def mBin (f : D → D → Option D) (ma mb : M D) : M D := mBind ma fun d => mBind mb fun e => mOpt (f d e)
theorem binS {r : R2} {f : D → D → Option D} (hr : OpS X.K r f) {σ : L2.St} {H : Hp} {Q : VK} (h : tOf X.K E (mBin f ma mb) σ H Q) : tOp r (tOf X.K E ma) (tOf X.K E mb) σ H Q := by
  obtain ⟨G, g, δ, re, po⟩ := h
  refine tOf.step re po fun x d g1 H1 δ1 e1 re1 r1 po1 => ?_
  refine tOf.step re1 po1 fun y e g2 H2 δ2 e2 re2 r2 po2 => ?_
  obtain ⟨c, hc, po3⟩ := Post.opt po2
  exact hr g2.h H2 x y d e c Q re2.ex (r1.ex e2.h) r2 hc fun v Hs' H' w rv => Post.grow po3 re2 (Grw.of w) v rv
theorem je_bin {op : Operator} {r : R2} {f : D → D → Option D} (ho : OpR X (binaryOp op) r) (hr : OpS X.K r f) (ha : PE X a (tOf X.K E ma)) (hb : PE X b (tOf X.K E mb)) : PE X (.BinOp a op b pos) (tOf X.K E (mBin f ma mb)) :=
  pe_imp (pe_op ho ha hb) fun _ _ _ h => binS hr h
theorem je_cmp {op : CmpOp} {r : R2} {f : D → D → Option D} (ho : OpR X (compareOp op) r) (hr : OpS X.K r f) (ha : PE X a (tOf X.K E ma)) (hb : PE X b (tOf X.K E mb)) (hm : behindInMarks op b = false) : PE X (.Compare a [op] [b] pos) (tOf X.K E (mBin f ma mb)) :=
  pe_imp (pe_cmpR ho ha hb hm) fun _ _ _ h => binS hr h
def mTest (m : M D) : M Bool := mBind m fun d => mOpt (toB d)
theorem testS {t : TE} {m : M D} (h : ∀ σ H Q, tOf X.K E m σ H Q → t σ H Q) {σ : L2.St} {H : Hp} {Q : Bool → Hp → Prop} (q : tOfT X.K E (mTest m) σ H Q) : tTest t σ H Q := by
  obtain ⟨G, g, δ, re, po⟩ := q
  refine h _ _ _ (tOf.step re po fun x d g1 H1 δ1 e1 re1 r1 po1 => ?_)
  obtain ⟨c, hc, po3⟩ := Post.opt po1
  cases r1 <;> simp [toB] at hc
  subst hc
  exact ⟨_, rfl, Post.of po3 re1⟩
theorem jt_cmp {op : CmpOp} {r : R2} {f : D → D → Option D} (ho : OpR X (compareOp op) r) (hr : OpS X.K r f) (ha : PE X a (tOf X.K E ma)) (hb : PE X b (tOf X.K E mb)) (hm : behindInMarks op b = false) : PT X (.Compare a [op] [b] pos) (tOfT X.K E (mTest (mBin f ma mb))) :=
  pt_imp (pt_cmpR ho ha hb hm) fun _ _ _ h => testS (fun _ _ _ => binS hr) h
theorem jt_val {m : M D} (h : PE X e (tOf X.K E m)) (he : ∀ whole, isTrue e X.env whole = (do let v ← whole; standAt e.pos; holding [v] (truthy v)) := by intro _; rfl) : PT X e (tOfT X.K E (mTest m)) :=
  pt_imp (pt_val h he) fun _ _ _ q => testS (fun _ _ _ z => z) q
def mChain (f f' : D → D → Option D) (ma mb mc : M D) : M D := mBind ma fun d => mBind mb fun e => mBind (mOpt ((f d e).bind toB)) fun k => if k then mBind mc fun z => mOpt (f' e z) else mPure (.bool false)
variable {c : Expr} {mc : M D}
theorem chainS {r r' : R2} {f f' : D → D → Option D} (hr : OpB X.K r f) (hr' : OpS X.K r' f') {σ : L2.St} {H : Hp} {Q : VK} (h : tOf X.K E (mChain f f' ma mb mc) σ H Q) : tChain r r' (tOf X.K E ma) (tOf X.K E mb) (tOf X.K E mc) σ H Q := by
  obtain ⟨G, g, δ, re, po⟩ := h
  refine tOf.step re po fun x d g1 H1 δ1 e1 re1 r1 po1 => ?_
  refine tOf.step re1 po1 fun y e g2 H2 δ2 e2 re2 r2 po2 => ?_
  obtain ⟨k, hk, po3⟩ := Post.optB po2
  refine hr g2.h H2 x y d e k _ re2.ex (r1.ex e2.h) r2 hk ⟨k, rfl, ?_⟩
  cases k with
  | true =>
    rw [if_pos rfl] at po3 ⊢
    refine tOf.step re2 po3 fun z f g3 H3 δ3 e3 re3 r3 po4 => ?_
    obtain ⟨c, hc, po5⟩ := Post.opt po4
    exact hr' g3.h H3 y z e f c Q re3.ex (r2.ex e3.h) r3 hc fun v Hs' H' w rv => Post.grow po5 re3 (Grw.of w) v rv
  | false =>
    rw [if_neg Bool.false_ne_true] at po3 ⊢
    exact Post.of po3 re2 _ (.bl false)
theorem jt_chain {op op' : CmpOp} {r r' : R2} {f f' : D → D → Option D} (ho : OpR X (compareOp op) r) (ho' : OpR X (compareOp op') r') (hr : OpB X.K r f) (hr' : OpS X.K r' f') (ha : PE X a (tOf X.K E ma)) (hb : PE X b (tOf X.K E mb)) (hc : PE X c (tOf X.K E mc))
    (hm : lastMarks [op, op'] [b, c] = false := by with_unfolding_all rfl) : PT X (.Compare a [op, op'] [b, c] pos) (tOfT X.K E (mTest (mChain f f' ma mb mc))) :=
  pt_imp (pt_chain ho ho' ha hb hc hm) fun _ _ _ h => testS (fun _ _ _ z => chainS hr hr' z) h
theorem je_ix (ha : PE X a (tOf X.K E ma)) (hb : PE X b (tOf X.K E mb)) (hs : PlainIx b) : PE X (.Subscript a b pos) (tOf X.K E (mBin dIx ma mb)) :=
  pe_imp (pe_ix ix_seq ha hb hs) fun _ _ _ h => binS os_ix h
def tOfP (K : Frag) (E : XQ) (m : M (Option Int)) : TO := fun σ H Q => Cf K E m σ H fun _ o _ H' _ => Q o H'
def mPart (m : M D) : M (Option Int) := mBind m fun d => mOpt (toI d)
def mNoPart : M (Option Int) := mPure none
theorem jp_none : PO X none (tOfP X.K E mNoPart) := ⟨fun pins s σ H Q I ⟨G, g, δ, re, po⟩ => po_none.run pins s σ H Q I (Post.of po re)⟩
theorem jp_some (h : PE X e (tOf X.K E m)) : PO X (some e) (tOfP X.K E (mPart m)) := ⟨fun pins s σ H Q I ⟨G, g, δ, re, po⟩ => (po_some h).run pins s σ H Q I (by
  refine tOf.step re po fun x d g1 H1 δ1 e1 re1 r1 po1 => ?_
  obtain ⟨c, hc, po3⟩ := Post.opt po1
  cases r1 <;> simp [toI] at hc
  subst hc
  exact ⟨_, rfl, Post.of po3 re1⟩)⟩
def mSl (m : M D) (ml mh : M (Option Int)) : M D := mBind m fun d => mBind ml fun l => mBind mh fun h => mOpt (dSl d l h)
theorem je_slice {lo hi : Option Expr} {ml mh : M (Option Int)} {p2 : Pos} (he : PE X e (tOf X.K E m)) (hl : PO X lo (tOfP X.K E ml)) (hu : PO X hi (tOfP X.K E mh)) : PE X (.Subscript e (.Slice lo hi none p2) pos) (tOf X.K E (mSl m ml mh)) :=
  pe_imp (pe_slice sl_Z he hl hu) fun σ H Q ⟨G, g, δ, re, po⟩ => by
    refine tOf.step re po fun x d g1 H1 δ1 e1 re1 r1 po1 => ?_
    refine Cf.step re1 po1 fun l g2 H2 δ2 e2 re2 po2 => ?_
    refine Cf.step re2 po2 fun u g3 H3 δ3 e3 re3 po3 => ?_
    obtain ⟨c, hc, po4⟩ := Post.opt po3
    exact slS re3.ex ((r1.ex e2.h).ex e3.h) hc fun v Hs' H' w rv => Post.grow po4 re3 (Grw.of w) v rv
variable {t1 t2 : M Bool} {rest : List Expr}
def mAndT (t1 t2 : M Bool) : M Bool := mBind t1 fun b => if b then t2 else mPure false
def mOrT (t1 t2 : M Bool) : M Bool := mBind t1 fun b => if b then mPure true else t2
def mNotT (t : M Bool) : M Bool := mBind t fun b => mPure (!b)
theorem jt_not (h : PT X a (tOfT X.K E t1)) : PT X (.UnaryOp .Not a pos) (tOfT X.K E (mNotT t1)) :=
  pt_imp (pt_not h) fun σ H Q ⟨G, g, δ, re, po⟩ => tOfT.step re po fun b g1 H1 δ1 e1 re1 po1 => Post.of po1 re1
theorem jw_and1 (h : PT X a (tOfT X.K E t1)) : PW X (.BoolOp .And [a] pos) (tOfT X.K E t1) := pw_and1 h
theorem jw_or1 (h : PT X a (tOfT X.K E t1)) : PW X (.BoolOp .Or [a] pos) (tOfT X.K E t1) := pw_or1 h
theorem jw_and (h : PT X a (tOfT X.K E t1)) (h2 : PW X (.BoolOp .And (b :: rest) pos) (tOfT X.K E t2)) : PW X (.BoolOp .And (a :: b :: rest) pos) (tOfT X.K E (mAndT t1 t2)) :=
  pw_imp (pw_and h h2) fun σ H Q ⟨G, g, δ, re, po⟩ => tOfT.step re po fun b g1 H1 δ1 e1 re1 po1 => by
    cases b with
    | true => exact Cf.last re1 po1
    | false => exact Post.of po1 re1
theorem jw_or (h : PT X a (tOfT X.K E t1)) (h2 : PW X (.BoolOp .Or (b :: rest) pos) (tOfT X.K E t2)) : PW X (.BoolOp .Or (a :: b :: rest) pos) (tOfT X.K E (mOrT t1 t2)) :=
  pw_imp (pw_or h h2) fun σ H Q ⟨G, g, δ, re, po⟩ => tOfT.step re po fun b g1 H1 δ1 e1 re1 po1 => by
    cases b with
    | true => exact Post.of po1 re1
    | false => exact Cf.last re1 po1
def mAndV (m1 m2 : M D) : M D := mBind (mTest m1) fun b => if b then m2 else mPure (.bool false)
def mOrV (m1 m2 : M D) : M D := mBind (mTest m1) fun b => if b then mPure (.bool true) else m2
def mNotV (m : M D) : M D := mBind (mTest m) fun b => mPure (.bool (!b))
theorem bind_assoc {α β γ : Type} {m : M α} {f : α → M β} {h : β → M γ} (δ : Sx) : mBind (mBind m f) h δ = mBind m (fun a => mBind (f a) h) δ := by
  unfold mBind
  cases m δ <;> rfl
def mIfE (t : M Bool) (m1 m2 : M D) : M D := mBind t fun b => if b then m1 else m2
theorem je_if {c : Expr} (hc : PT X c (tOfT X.K E t1)) (h : PE X a (tOf X.K E ma)) (h2 : PE X b (tOf X.K E mb)) : PE X (.IfExp c a b pos) (tOf X.K E (mIfE t1 ma mb)) :=
  pe_imp (pe_ifExp hc h h2) fun σ H Q ⟨G, g, δ, re, po⟩ => tOfT.step re po fun b g1 H1 δ1 e1 re1 po1 => by
    cases b with
    | true => exact Cf.last re1 po1
    | false => exact Cf.last re1 po1
def mNeg (m : M D) : M D := mBind m fun d => mOpt (dNeg d)
/-- a fresh list, as data, as one of the store's -/
def mFr (m : M (List Cl)) : M D := mBind m fun xs => mOpt ((shL xs).map PyData.list)
theorem je_fr {m : M (List Cl)} (h : PE X e (tOfO X.K E m)) : PE X e (tOf X.K E (mFr m)) :=
  pe_imp h fun σ H Q ⟨G, g, δ, re, po⟩ => tOfO.step re po fun a xs g1 H1 δ1 e1 re1 f1 po1 => by
    obtain ⟨d, hd, po2⟩ := Post.opt po1
    obtain ⟨ds, h1, h2⟩ := Option.map_eq_some_iff.mp hd
    subst h2
    obtain ⟨g2, k1, _, k2, k3⟩ := re1.freeze f1 h1
    exact po2 g2 H1 k1 k2 _ k3
def mAll (o : Ob) : M Nat := fun δ => .ok δ.s.length ⟨δ.e, δ.s ++ [o]⟩
def mNew (m : M (List Cl)) : M Nat := mBind m fun xs => mAll (.lst xs)
theorem allS {K : Frag} {G : Hp} {g : Gh} {H : Hp} {σ : L2.St} {δ : Sx} {a : Addr} {o : Ob} {QQ : Nat → Gh → Hp → Sx → Prop} (re : RE K G g H σ δ) (f : Fro K G g H a o) (po : Post K E G g σ (mAll o δ) QQ) : ∃ g', QQ δ.s.length g' H ⟨δ.e, δ.s ++ [o]⟩ ∧ g'.r[δ.s.length]? = some a := by
  obtain ⟨le, re'⟩ := re.alloc f
  refine ⟨_, po _ H le re', ?_⟩
  show (g.r ++ [a])[δ.s.length]? = some a
  rw [← re.rl, List.getElem?_append_right (Nat.le_refl _), Nat.sub_self]
  rfl
theorem jl_new {m : M (List Cl)} (h : PE X e (tOfO X.K E m)) : PE X e (tOfL X.K E (mNew m)) :=
  pe_imp h fun σ H Q ⟨G, g, δ, re, po⟩ => tOfO.step re po fun a xs g1 H1 δ1 e1 re1 f1 po1 => by
    obtain ⟨g2, k1, k2⟩ := allS re1 f1.fro po1
    exact k1 a k2
/-- a list of the store, at last data -/
def mSeal (m : M Nat) : M D := mBind m fun l δ => match δ.s[l]? with
  | some (.lst xs) => match shL xs with
    | some ds => .ok (.list ds) ⟨δ.e, δ.s.set l .gone⟩
    | none => .bad
  | _ => .bad
theorem je_seal {m : M Nat} (h : PE X e (tOfL X.K E m)) : PE X e (tOf X.K E (mSeal m)) :=
  pe_imp h fun σ H Q ⟨G, g, δ, re, po⟩ => tOfL.step re po fun a l g1 H1 δ1 e1 re1 f1 po1 => by
    split at po1
    · rename_i xs hx
      split at po1
      · rename_i ds hd
        obtain ⟨g2, k1, _, k2, k3⟩ := re1.seal hx f1 hd
        exact po1 g2 H1 k1 k2 _ k3
      · exact po1.elim
    · exact po1.elim
end
end Ds
namespace Ds
open PySem PySem.Spec PyProof.Rows L2 Dn
def evA : List (M Cl) → M (List Cl)
  | [] => mPure []
  | m :: as => mBind m fun c => mBind (evA as) fun cs => mPure (c :: cs)
/-- what a cell holds now, as data -/
def snap (s : List Ob) : Cl → Option D
  | .sh d => some d
  | .lo l => match s[l]? with
    | some (.lst xs) => (shL xs).map PyData.list
    | _ => none
  | .tp cs => (shL cs).map PyData.tuple
  | .no => none
def snaps (s : List Ob) : List Cl → Option (List D)
  | [] => some []
  | c :: cs => (snap s c).bind fun d => (snaps s cs).map (d :: ·)
section
variable {K : Frag} {G : Hp} {g : Gh} {H : Hp} {σ : L2.St} {δ : Sx}
theorem RE.lstAt (r : RE K G g H σ δ) {l : Nat} {a : Addr} {xs : List Cl} (h : g.r[l]? = some a) (hx : δ.s[l]? = some (.lst xs)) : ∃ vs, H a = some (.lst vs) ∧ All2 (CR K g) vs xs := by
  obtain ⟨b, u, h1, h2, h3, h4⟩ := r.ob l _ hx rfl
  rw [h] at h1
  cases h1
  cases h3 with
  | lst h3 => exact ⟨_, h2, h3⟩
theorem snap_lo {s : List Ob} {l : Nat} {d : D} (h : snap s (.lo l) = some d) : ∃ xs ds, s[l]? = some (.lst xs) ∧ shL xs = some ds ∧ d = .list ds := by
  have h : (match s[l]? with
    | some (.lst xs) => (shL xs).map PyData.list
    | _ => none) = some d := h
  split at h
  · rename_i xs hx
    obtain ⟨ds, h3, h4⟩ := Option.map_eq_some_iff.mp h
    exact ⟨xs, ds, hx, h3, h4.symm⟩
  · cases h
theorem snap_rp (r : RE K G g H σ δ) : ∀ {v : V} {c : Cl} {d : D}, CR K g v c → snap δ.s c = some d → Rp K H v d
  | _, _, d, .sh h, q => by cases q; exact h.ex r.ex
  | _, .lo l, d, .lo h, q => by
    obtain ⟨xs, ds, hx, h3, rfl⟩ := snap_lo q
    obtain ⟨vs, h1, h2⟩ := r.lstAt h hx
    exact .lst (SqL.of h1) ((shL_rps h2 h3).ex r.ex)
  | _, .tp cs, d, .tp h t, q => by
    obtain ⟨ds, h3, rfl⟩ := Option.map_eq_some_iff.mp q
    exact .tup (h.ex r.ex) ((shL_rps (CRt.a t) h3).ex r.ex)
theorem snaps_rp (r : RE K G g H σ δ) : ∀ {vs : List V} {cs : List Cl} {ds : List D}, All2 (CR K g) vs cs → snaps δ.s cs = some ds → Rps K H vs ds
  | _, _, ds, .nil, q => by cases q; exact .nil
  | _, _, ds, .cons h t, q => by
    unfold snaps at q
    obtain ⟨d, h1, h2⟩ := Option.bind_eq_some_iff.mp q
    obtain ⟨es, h3, h4⟩ := Option.map_eq_some_iff.mp h2
    subst h4
    exact .cons (snap_rp r h h1) (snaps_rp r t h3)
/-- new things of no account -/
theorem Post.late {E : XQ} {α : Type} {a : α} {H' : Hp} {QQ : α → Gh → Hp → Sx → Prop} (po : Post K E G g σ (.ok a δ) QQ) (r : RE K G g H σ δ) (e : Ex H H') : QQ a g H' δ := po g H' (Le.refl _) (r.newH e)
end
section
variable {X : Cx} {E : XQ} {a b e o : Expr} {es : List Expr} {pos : Pos} {ma mb m : M D} {mc mk : M Cl} {as : List (M Cl)}
theorem ja_nil : PA X [] (tOfA X.K E (evA [])) := pa_imp pa_nil fun σ H Q ⟨G, g, δ, re, po⟩ => Post.of po re [] .nil
theorem ja_c (h : PE X e (tOfC X.K E mc)) (t : PA X es (tOfA X.K E (evA as))) (hs : starEach (e :: es) X.env = (false, eval e X.env) :: starEach es X.env := by rfl) : PA X (e :: es) (tOfA X.K E (evA (mc :: as))) :=
  pa_imp (pa_cons h t hs) fun σ H Q ⟨G, g, δ, re, po⟩ => tOfC.step re po fun v c g1 H1 δ1 e1 re1 r1 po1 => tOfA.step re1 po1 fun vs cs g2 H2 δ2 e2 re2 r2 po2 => Post.of po2 re2 (v :: vs) (.cons (r1.le e2) r2)
def mCallB (f : List D → Option D) (as : List (M Cl)) : M D := mBind (evA as) fun cs => mOpt ((shL cs).bind f)
/-- lists of the store may stand among the arguments; what comes back is flat -/
def mCallC (f : List D → Option D) (as : List (M Cl)) : M D := mBind (evA as) fun cs δ => match (snaps δ.s cs).bind f with
  | some d => if flatD d = true then .ok d δ else .bad
  | none => .bad
theorem callS {r : List V → Hp → VK → Prop} {f : List D → Option D} (hr : CallS X.K r f) {σ : L2.St} {H : Hp} {Q : VK} (h : tOf X.K E (mCallB f as) σ H Q) : tCB r (tOfA X.K E (evA as)) σ H Q := by
  obtain ⟨G, g, δ, re, po⟩ := h
  refine tOfA.step re po fun vs cs g1 H1 δ1 e1 re1 r1 po1 => ?_
  obtain ⟨c, hc, po2⟩ := Post.opt po1
  obtain ⟨ds, h1, h2⟩ := Option.bind_eq_some_iff.mp hc
  exact hr g1.h H1 vs ds c Q re1.ex (shL_rps r1 h1) h2 fun v Hs' H' w rv => Post.grow po2 re1 (Grw.of w) v rv
theorem callC {r : List V → Hp → VK → Prop} {f : List D → Option D} (hr : CallS X.K r f) {σ : L2.St} {H : Hp} {Q : VK} (h : tOf X.K E (mCallC f as) σ H Q) : tCB r (tOfA X.K E (evA as)) σ H Q := by
  obtain ⟨G, g, δ, re, po⟩ := h
  refine tOfA.step re po fun vs cs g1 H1 δ1 e1 re1 r1 po1 => ?_
  split at po1
  · rename_i d hd
    obtain ⟨ds, h1, h2⟩ := Option.bind_eq_some_iff.mp hd
    split at po1
    · rename_i hf
      exact hr H1 H1 vs ds d Q (Ex.refl _) (snaps_rp re1 r1 h1) h2 fun v Hs' H' w rv => Post.late po1 re1 w.h v (flat_free rv hf)
    · exact po1.elim
  · exact po1.elim
theorem je_callB {x : Str} {p : Pos} {id : String} {r : List V → Hp → VK → Prop} {f : List D → Option D} (hc : CallR X (.builtin id) r) (hr : CallS X.K r f) (hg : Gl X x) (hm : X.mg x = none) (hv : bootBuiltins x = some (.builtin id)) (ha : PA X (e :: es) (tOfA X.K E (evA as))) (hn : x ≠ "__name__" := by decide) (hdb : (x == ("__debug__" : Str)) = false := by decide)
    (he : starEach (e :: es) X.env = (false, eval e X.env) :: starEach es X.env := by rfl) (hpl : (backTo pos (starEach es X.env)).any (·.1) = false := by rfl) : PE X (.Call (.Name x p) (e :: es) [] pos) (tOf X.K E (mCallB f as)) :=
  pe_imp (pe_callB hc hg hm hv ha hn hdb he hpl) fun _ _ _ h => callS hr h
theorem je_callTy {x : Str} {p : Pos} {T : String} {r : List V → Hp → VK → Prop} {f : List D → Option D} (hc : CallR X (.type T) r) (hr : CallS X.K r f) (hg : Gl X x) (hm : X.mg x = none) (hv : bootBuiltins x = some (.type T)) (ha : PA X (e :: es) (tOfA X.K E (evA as))) (hn : x ≠ "__name__" := by decide) (hdb : (x == ("__debug__" : Str)) = false := by decide)
    (he : starEach (e :: es) X.env = (false, eval e X.env) :: starEach es X.env := by rfl) (hpl : (backTo pos (starEach es X.env)).any (·.1) = false := by rfl) : PE X (.Call (.Name x p) (e :: es) [] pos) (tOf X.K E (mCallB f as)) :=
  pe_imp (pe_callTy hc hg hm hv ha hn hdb he hpl) fun _ _ _ h => callS hr h
theorem je_callBC {x : Str} {p : Pos} {id : String} {r : List V → Hp → VK → Prop} {f : List D → Option D} (hc : CallR X (.builtin id) r) (hr : CallS X.K r f) (hg : Gl X x) (hm : X.mg x = none) (hv : bootBuiltins x = some (.builtin id)) (ha : PA X (e :: es) (tOfA X.K E (evA as))) (hn : x ≠ "__name__" := by decide) (hdb : (x == ("__debug__" : Str)) = false := by decide)
    (he : starEach (e :: es) X.env = (false, eval e X.env) :: starEach es X.env := by rfl) (hpl : (backTo pos (starEach es X.env)).any (·.1) = false := by rfl) : PE X (.Call (.Name x p) (e :: es) [] pos) (tOf X.K E (mCallC f as)) :=
  pe_imp (pe_callB hc hg hm hv ha hn hdb he hpl) fun _ _ _ h => callC hr h
/-- list(x): a fresh one -/
def itemsD : D → Option (List D)
  | .list xs => some xs
  | .tuple xs => some xs
  | _ => none
def mListOf (mc : M Cl) : M (List Cl) := mBind (evA [mc]) fun cs δ => match snaps δ.s cs with
  | some [d] => match itemsD d with
    | some xs => .ok (xs.map Cl.sh) δ
    | none => .bad
  | _ => .bad
theorem FrO.new {K : Frag} {G : Hp} {g : Gh} {H : Hp} {σ : L2.St} {δ : Sx} {p : Addr} {vs : List V} {xs : List Cl} (re : RE K G g H σ δ) (hp : H p = none) (h : All2 (CR K g) vs xs) : FrO K G g (upd H p (.lst vs)) p xs :=
  ⟨⟨vs, upd_same, h⟩, ex_none re.ex hp, (by
    cases q : G p with
    | none => rfl
    | some u => have := (re.fg p u q).1; rw [hp] at this; cases this), re.nin hp⟩
/-- the items of a list or tuple: in the store, or data -/
theorem snap_items {K : Frag} {G : Hp} {g : Gh} {H : Hp} {σ : L2.St} {δ : Sx} (r : RE K G g H σ δ) {v : V} {c : Cl} {d : D} {xs : List D} (h : CR K g v c) (hs : snap δ.s c = some d) (hi : itemsD d = some xs) : ∃ p ys, v = .ref p ∧ (SqL K H p ys ∨ SqT K H p ys) ∧ Rps K g.h ys xs := by
  cases h with
  | sh h =>
    cases hs
    cases h with
    | lst h1 t => cases hi; exact ⟨_, _, rfl, .inl (sqL_ex r.ex h1), t⟩
    | tup h1 t => cases hi; exact ⟨_, _, rfl, .inr (sqT_ex r.ex h1), t⟩
    | _ => cases hi
  | lo h =>
    obtain ⟨ys, ds, hx, h3, rfl⟩ := snap_lo hs
    obtain ⟨vs, h1, h2⟩ := r.lstAt h hx
    cases hi
    exact ⟨_, vs, rfl, .inl (SqL.of h1), shL_rps h2 h3⟩
  | tp h t =>
    obtain ⟨ds, h3, rfl⟩ := Option.map_eq_some_iff.mp hs
    cases hi
    exact ⟨_, _, rfl, .inr (sqT_ex r.ex h), shL_rps (CRt.a t) h3⟩
/-- tuple(x), x one of the store's -/
def mTupOf (mc : M Cl) : M D := mBind (evA [mc]) fun cs δ => match snaps δ.s cs with
  | some [d] => match itemsD d with
    | some xs => .ok (.tuple xs) δ
    | none => .bad
  | _ => .bad
theorem snaps_one {K : Frag} {g : Gh} {δ : Sx} {vs : List V} {cs : List Cl} {d : D} (r1 : All2 (CR K g) vs cs) (hd : snaps δ.s cs = some [d]) : ∃ v c, vs = [v] ∧ cs = [c] ∧ CR K g v c ∧ snap δ.s c = some d := by
  cases r1 with
  | nil => cases hd
  | cons h t =>
    unfold snaps at hd
    obtain ⟨d1, h1, h2⟩ := Option.bind_eq_some_iff.mp hd
    obtain ⟨es, h3, h4⟩ := Option.map_eq_some_iff.mp h2
    cases t with
    | nil =>
      cases h3
      cases h4
      exact ⟨_, _, rfl, rfl, h, h1⟩
    | cons _ _ =>
      unfold snaps at h3
      obtain ⟨d2, h5, h6⟩ := Option.bind_eq_some_iff.mp h3
      obtain ⟨es', h7, h8⟩ := Option.map_eq_some_iff.mp h6
      subst h8
      cases h4
theorem je_tupOf {p : Pos} (hg : Gl X "tuple") (hm : X.mg "tuple" = none) (hv : bootBuiltins "tuple" = some (.type "tuple")) (h : PE X e (tOfC X.K E mc))
    (he : starEach [e] X.env = (false, eval e X.env) :: starEach [] X.env := by rfl) (hpl : (backTo pos (starEach [] X.env)).any (·.1) = false := by rfl) : PE X (.Call (.Name "tuple" p) [e] [] pos) (tOf X.K E (mTupOf mc)) :=
  pe_imp (pe_callTy call_tuple_of hg hm hv (ja_c h ja_nil he) (by decide) (by decide) he hpl) fun σ H Q ⟨G, g, δ, re, po⟩ => by
    refine tOfA.step re po fun vs cs g1 H1 δ1 e1 re1 r1 po1 => ?_
    split at po1
    · rename_i d hd
      split at po1
      · rename_i xs hx
        obtain ⟨v, c, rfl, rfl, hc, hs⟩ := snaps_one r1 hd
        cases hc with
        | sh h =>
          cases hs
          cases h with
          | lst h1 t =>
            cases hx
            exact ⟨_, _, rfl, .inl ⟨sqL_ex re1.ex h1, fun p hp => Post.grow po1 re1 (Grw.new re1.ex hp) _ (.tup (StT.of upd_same) (t.ex (Gr.new re1.ex hp).s))⟩⟩
          | tup h1 t =>
            cases hx
            exact ⟨_, _, rfl, .inr ⟨sqT_ex re1.ex h1, Post.of po1 re1 _ (.tup h1 t)⟩⟩
          | _ => cases hx
        | lo h =>
          obtain ⟨ys, ds, hxs, h3, rfl⟩ := snap_lo hs
          obtain ⟨vs, h1, h2⟩ := re1.lstAt h hxs
          cases hx
          exact ⟨_, vs, rfl, .inl ⟨SqL.of h1, fun p hp => Post.grow po1 re1 (Grw.new re1.ex hp) _ (.tup (StT.of upd_same) ((shL_rps h2 h3).ex (Gr.new re1.ex hp).s))⟩⟩
        | tp h t =>
          obtain ⟨ds, h3, rfl⟩ := Option.map_eq_some_iff.mp hs
          cases hx
          exact ⟨_, _, rfl, .inr ⟨sqT_ex re1.ex h, Post.of po1 re1 _ (.tup h (shL_rps (CRt.a t) h3))⟩⟩
      · exact po1.elim
    · exact po1.elim
def mBinC (f : D → D → Option D) (mc mk : M Cl) : M D := mBind mc fun c => mBind mk fun k δ => match (snap δ.s c).bind fun d => (snap δ.s k).bind fun e => f d e with
  | some d => if flatD d = true then .ok d δ else .bad
  | none => .bad
theorem binC {r : R2} {f : D → D → Option D} (hr : OpS X.K r f) {σ : L2.St} {H : Hp} {Q : VK} (h : tOf X.K E (mBinC f mc mk) σ H Q) : tOp r (tOfC X.K E mc) (tOfC X.K E mk) σ H Q := by
  obtain ⟨G, g, δ, re, po⟩ := h
  refine tOfC.step re po fun x d g1 H1 δ1 e1 re1 r1 po1 => ?_
  refine tOfC.step re1 po1 fun y e g2 H2 δ2 e2 re2 r2 po2 => ?_
  split at po2
  · rename_i d' hd
    obtain ⟨d1, h1, h2⟩ := Option.bind_eq_some_iff.mp hd
    obtain ⟨d2, h3, h4⟩ := Option.bind_eq_some_iff.mp h2
    split at po2
    · rename_i hf
      exact hr H2 H2 x y d1 d2 d' Q (Ex.refl _) (snap_rp re2 (r1.le e2) h1) (snap_rp re2 r2 h3) h4 fun v Hs' H' w rv => Post.late po2 re2 w.h v (flat_free rv hf)
    · exact po2.elim
  · exact po2.elim
theorem jt_cmpC {op : CmpOp} {r : R2} {f : D → D → Option D} (ho : OpR X (compareOp op) r) (hr : OpS X.K r f) (ha : PE X a (tOfC X.K E mc)) (hb : PE X b (tOfC X.K E mk)) (hm : behindInMarks op b = false) : PT X (.Compare a [op] [b] pos) (tOfT X.K E (mTest (mBinC f mc mk))) :=
  pt_imp (pt_cmpR ho ha hb hm) fun _ _ _ h => testS (fun _ _ _ => binC hr) h
def ixC (s : List Ob) (c : Cl) (e : D) : Option Cl := match c with
  | .sh d => (dIx d e).map Cl.sh
  | .lo l => match s[l]?, e with
    | some (.lst xs), .int i => atI xs i
    | _, _ => none
  | .tp cs => match e with
    | .int i => atI cs i
    | _ => none
  | .no => none
def mIxC (mc : M Cl) (m : M D) : M Cl := mBind mc fun c => mBind m fun e δ => match ixC δ.s c e with
  | some k => .ok k δ
  | none => .bad
theorem atI_all2 {α β : Type} {R : α → β → Prop} {vs : List α} {ds : List β} {i : Int} {d : β} (t : All2 R vs ds) (h : atI ds i = some d) : ∃ v, atI vs i = some v ∧ R v d := by
  unfold atI at h ⊢
  rw [t.length]
  cases q : ixN ds.length i with
  | none => rw [q] at h; simp at h
  | some j =>
    rw [q] at h
    simp only [Option.bind_some] at h ⊢
    exact t.get h
theorem jc_ix (ha : PE X a (tOfC X.K E mc)) (hb : PE X b (tOf X.K E m)) (hs : PlainIx b) : PE X (.Subscript a b pos) (tOfC X.K E (mIxC mc m)) :=
  pe_imp (pe_ix ix_seq ha hb hs) fun σ H Q ⟨G, g, δ, re, po⟩ => by
    refine tOfC.step re po fun x c g1 H1 δ1 e1 re1 r1 po1 => ?_
    refine tOf.step re1 po1 fun y e g2 H2 δ2 e2 re2 r2 po2 => ?_
    split at po2
    · rename_i k hk
      cases r1 with
      | sh h =>
        obtain ⟨d, h1, h2⟩ := Option.map_eq_some_iff.mp hk
        subst h2
        exact os_ix g2.h H2 x y _ e d Q re2.ex (h.ex e2.h) r2 h1 fun v Hs' H' w rv => Post.grow po2 re2 (Grw.of w) v (.sh rv)
      | lo h =>
        unfold ixC at hk
        dsimp only at hk
        split at hk
        · rename_i xs i hx
          obtain ⟨vs, h1, h2⟩ := re2.lstAt (e2.r _ _ h) hx
          obtain ⟨v, h3, h4⟩ := atI_all2 h2 hk
          cases r2
          exact .inl ⟨_, vs, i, v, rfl, rfl, SqL.of h1, h3, Post.of po2 re2 v h4⟩
        · cases hk
      | tp h t =>
        unfold ixC at hk
        dsimp only at hk
        split at hk
        · rename_i i
          obtain ⟨v, h3, h4⟩ := atI_all2 (CRt.a (CRt.le e2 t)) hk
          cases r2
          exact .inr (.inl ⟨_, _, _, v, rfl, rfl, sqT_ex re2.ex (h.ex e2.h), h3, Post.of po2 re2 v h4⟩)
        · cases hk
    · exact po2.elim
def mSlC (mc : M Cl) (ml mh : M (Option Int)) : M D := mBind mc fun c => mBind ml fun l => mBind mh fun h δ => match snap δ.s c with
  | some d => match dSl d l h with
    | some e => .ok e δ
    | none => .bad
  | none => .bad
def mIsi (T : String) (m : M D) : M D := mBind m fun d => mOpt ((kitB (tyD d) T).map PyData.bool)
theorem je_isi {T : Str} {T' : String} {p p' : Pos} (h : PE X e (tOf X.K E m)) (hg : Gl X "isinstance") (hm : X.mg "isinstance" = none) (hgT : Gl X T) (hmT : X.mg T = none) (hvT : bootBuiltins T = some (.type T')) (hnT : T ≠ "__name__" := by decide) (hdT : (T == ("__debug__" : Str)) = false := by decide)
    (he : starEach (e :: [.Name T p']) X.env = (false, eval e X.env) :: starEach [.Name T p'] X.env := by rfl) (he2 : starEach [.Name T p'] X.env = (false, eval (.Name T p') X.env) :: starEach [] X.env := by rfl) (hpl : (backTo pos (starEach [.Name T p'] X.env)).any (·.1) = false := by rfl) :
    PE X (.Call (.Name "isinstance" p) [e, .Name T p'] [] pos) (tOf X.K E (mIsi T' m)) :=
  pe_imp (pe_callB call_isi hg hm (by decide +kernel) (pa_cons h (pa_cons (pe_bltn (v := .ty T') hgT hmT hvT rfl hnT hdT) pa_nil he2) he) (by decide) (by decide) he hpl) fun σ H Q ⟨G, g, δ, re, po⟩ => by
    refine tOf.step re po fun v d g1 H1 δ1 e1 re1 r1 po1 => ?_
    obtain ⟨c, hc, po2⟩ := Post.opt po1
    obtain ⟨b, hb, hc⟩ := Option.map_eq_some_iff.mp hc
    subst hc
    exact ⟨v, .ty T', _, _, b, rfl, .ty T', ty_of re1.ex r1, kit_ty hb, Post.of po2 re1 _ (.bl b)⟩
def mM1 (f : Str → List D → Option D) (mo m : M D) : M D := mBind mo fun d => mBind (mOpt (toS d)) fun z => mBind m fun e => mOpt (f z [e])
def mM1C (f : Str → List D → Option D) (mo : M D) (mc : M Cl) : M D := mBind mo fun d => mBind (mOpt (toS d)) fun z => mBind mc fun c δ => match (snap δ.s c).bind fun e => f z [e] with
  | some d => if flatD d = true then .ok d δ else .bad
  | none => .bad
theorem je_m1 {id : String} {name : Str} {apos pos : Pos} {r : V → List V → Hp → VK → Prop} {f : Str → List D → Option D} (slot : Slot "str" name id) (ty : typeOf (.builtin id) = pure (.type "method_descriptor")) (rule : MtR X id r) (hr : MtS X.K r f) (ho : PE X o (tOf X.K E ma)) (he : PE X e (tOf X.K E m))
    (hs : starEach [e] X.env = [(false, eval e X.env)] := by rfl) (hbase : attributeBase o name X.env (eval o X.env) = eval o X.env := by rfl) (hline : (apos.endLine == pos.line) = true := by rfl) : PE X (.Call (.Attribute o name apos) [e] [] pos) (tOf X.K E (mM1 f ma m)) :=
  pe_imp (pe_m1 slot ty rule ho he hs hbase hline) fun σ H Q ⟨G, g, δ, re, po⟩ => by
    refine tOf.step re po fun v d g1 H1 δ1 e1 re1 r1 po1 => ?_
    obtain ⟨z, hz, po2⟩ := Post.optB po1
    cases r1 <;> simp [toS] at hz
    subst hz
    refine ⟨⟨_, rfl⟩, tOf.step re1 po2 fun w c g2 H2 δ2 e2 re2 r2 po3 => ?_⟩
    obtain ⟨c', hc, po4⟩ := Post.opt po3
    exact hr g2.h H2 _ _ _ c' Q re2.ex (.cons r2 .nil) hc fun v Hs' H' w rv => Post.grow po4 re2 (Grw.of w) v rv
theorem je_m1C {id : String} {name : Str} {apos pos : Pos} {r : V → List V → Hp → VK → Prop} {f : Str → List D → Option D} (slot : Slot "str" name id) (ty : typeOf (.builtin id) = pure (.type "method_descriptor")) (rule : MtR X id r) (hr : MtS X.K r f) (ho : PE X o (tOf X.K E ma)) (he : PE X e (tOfC X.K E mc))
    (hs : starEach [e] X.env = [(false, eval e X.env)] := by rfl) (hbase : attributeBase o name X.env (eval o X.env) = eval o X.env := by rfl) (hline : (apos.endLine == pos.line) = true := by rfl) : PE X (.Call (.Attribute o name apos) [e] [] pos) (tOf X.K E (mM1C f ma mc)) :=
  pe_imp (pe_m1 slot ty rule ho he hs hbase hline) fun σ H Q ⟨G, g, δ, re, po⟩ => by
    refine tOf.step re po fun v d g1 H1 δ1 e1 re1 r1 po1 => ?_
    obtain ⟨z, hz, po2⟩ := Post.optB po1
    cases r1 <;> simp [toS] at hz
    subst hz
    refine ⟨⟨_, rfl⟩, tOfC.step re1 po2 fun w c g2 H2 δ2 e2 re2 r2 po3 => ?_⟩
    split at po3
    · rename_i d' hd
      obtain ⟨d1, h1, h2⟩ := Option.bind_eq_some_iff.mp hd
      split at po3
      · rename_i hf
        exact hr H2 H2 _ _ _ d' Q (Ex.refl _) (.cons (snap_rp re2 r2 h1) .nil) h2 fun v Hs' H' w rv => Post.late po3 re2 w.h v (flat_free rv hf)
      · exact po3.elim
    · exact po3.elim
def mShs (as : List (M Cl)) : M (List D) := mBind (evA as) fun cs => mOpt ((shL cs).filter fun ds => decide (ds.length ≤ sizeLine))
def mTup (as : List (M Cl)) : M D := mBind (mShs as) fun ds => mPure (.tuple ds)
def mLst (as : List (M Cl)) : M D := mBind (mShs as) fun ds => mPure (.list ds)
def mLsO (as : List (M Cl)) : M (List Cl) := mBind (evA as) fun cs => mOpt (if cs.length ≤ sizeLine then some cs else none)
theorem mShs_step {G : Hp} {g : Gh} {H : Hp} {σ : L2.St} {δ : Sx} {β : Type} {f : List D → M β} {QQ : β → Gh → Hp → Sx → Prop} {K : Frag} {R : List V → Hp → Prop} (re : RE K G g H σ δ) (po : Post K E G g σ (mBind (mShs as) f δ) QQ)
    (k : ∀ vs ds g1 H1 δ1, Le g g1 → RE K G g1 H1 σ δ1 → Rps K g1.h vs ds → vs.length ≤ sizeLine → Post K E G g1 σ (f ds δ1) QQ → R vs H1) : tOfA K E (evA as) σ H R := by
  unfold mShs at po
  rw [bind_assoc] at po
  refine tOfA.step re po fun vs cs g1 H1 δ1 e1 re1 r1 po1 => ?_
  obtain ⟨ds, hc, po2⟩ := Post.optB po1
  obtain ⟨h1, h2⟩ := Option.filter_eq_some_iff.mp hc
  have t := shL_rps r1 h1
  exact k vs ds g1 H1 δ1 e1 re1 t (by rw [t.length]; exact of_decide_eq_true h2) po2
theorem je_tup {x1} (h : PA X es (tOfA X.K E (evA as))) : PE X (.Tuple es x1 pos) (tOf X.K E (mTup as)) :=
  pe_imp (pe_tup h) fun σ H Q ⟨G, g, δ, re, po⟩ => mShs_step re po fun vs ds g1 H1 δ1 e1 re1 t hl po1 => ⟨hl, fun p hpn =>
    Post.grow po1 re1 (Grw.new re1.ex hpn) _ (.tup (StT.of upd_same) (t.ex (Gr.new re1.ex hpn).s))⟩
theorem je_lst (h : PA X es (tOfA X.K E (evA as))) : PE X (.List es pos) (tOf X.K E (mLst as)) :=
  pe_imp (pe_lst h) fun σ H Q ⟨G, g, δ, re, po⟩ => mShs_step re po fun vs ds g1 H1 δ1 e1 re1 t hl po1 => ⟨hl, fun p hpn =>
    Post.grow po1 re1 (Grw.new re1.ex hpn) _ (.lst (SqL.of upd_same) (t.ex (Gr.new re1.ex hpn).s))⟩
theorem jo_lst (h : PA X es (tOfA X.K E (evA as))) : PE X (.List es pos) (tOfO X.K E (mLsO as)) :=
  pe_imp (pe_lst h) fun σ H Q ⟨G, g, δ, re, po⟩ => tOfA.step re po fun vs cs g1 H1 δ1 e1 re1 r1 po1 => by
    obtain ⟨ds, hc, po2⟩ := Post.opt po1
    split at hc
    · rename_i hl
      cases hc
      exact ⟨by rw [r1.length]; exact hl, fun p hpn => Post.late po2 re1 (ex_new hpn) p (FrO.new re1 hpn r1)⟩
    · cases hc
/-- a list of data, fresh: what was made as data stays data; here for a + b with lists of the store -/
def mCatO (mc mk : M Cl) : M (List Cl) := mBind mc fun c => mBind mk fun k δ => match snap δ.s c, snap δ.s k with
  | some (.list xs), some (.list ys) => if xs.length + ys.length ≤ sizeLine then .ok ((xs ++ ys).map Cl.sh) δ else .bad
  | _, _ => .bad
theorem jo_cat (ha : PE X a (tOfC X.K E mc)) (hb : PE X b (tOfC X.K E mk)) : PE X (.BinOp a .Add b pos) (tOfO X.K E (mCatO mc mk)) :=
  pe_imp (pe_op op_catR ha hb) fun σ H Q ⟨G, g, δ, re, po⟩ => tOfC.step re po fun x c g1 H1 δ1 e1 re1 r1 po1 => tOfC.step re1 po1 fun y k g2 H2 δ2 e2 re2 r2 po2 => by
    split at po2
    · rename_i xs ys hx hy
      split at po2
      · rename_i hl
        obtain ⟨p, us, e1', q1, t1⟩ := snap_items re2 (r1.le e2) hx rfl
        obtain ⟨q, ws, e2', q2, t2⟩ := snap_items re2 r2 hy rfl
        have f : ∀ {v : V} {c : Cl} {zs : List D} {p : Addr} {ys : List V}, CR X.K g2 v c → snap δ2.s c = some (.list zs) → v = .ref p → Rps X.K g2.h ys zs → (SqL X.K H2 p ys ∨ SqT X.K H2 p ys) → ∃ ys', SqL X.K H2 p ys' ∧ Rps X.K g2.h ys' zs := fun {v c zs p ys} rc hz hv t hs => by
          cases rc with
          | sh h =>
            cases hz
            cases h with
            | lst h1 t1 => cases hv; exact ⟨_, sqL_ex re2.ex h1, t1⟩
          | lo h =>
            obtain ⟨zs', ds, hxs, h3, h4⟩ := snap_lo hz
            obtain ⟨vs, h1, h2⟩ := re2.lstAt h hxs
            cases h4
            cases hv
            exact ⟨vs, SqL.of h1, shL_rps h2 h3⟩
          | tp h t =>
            obtain ⟨ds, h3, h4⟩ := Option.map_eq_some_iff.mp hz
            cases h4
        obtain ⟨us', s1, u1⟩ := f (r1.le e2) hx e1' t1 q1
        obtain ⟨ws', s2, u2⟩ := f r2 hy e2' t2 q2
        exact ⟨p, q, us', ws', e1', e2', s1, s2, by rw [u1.length, u2.length]; exact hl, fun l hln => Post.late po2 re2 (ex_new hln) l (FrO.new re2 hln (rps_cr (u1.append u2)))⟩
      · exact po2.elim
    · exact po2.elim
end
end Ds
namespace Ds
open PySem PySem.Spec PyProof.Rows L2 Dn
inductive Fl where
  | nx
  | rt (c : Cl)
  | bk
  | ct
def FlOk (K : Frag) (B : Ends) (fl : Fl) (σ : L2.St) (g : Gh) (H : Hp) : Prop := match fl with
  | .nx => B.nx σ H
  | .bk => B.bk σ H
  | .ct => B.ct σ H
  | .rt c => ∀ v, CR K g v c → B.rt v H
def PostS (K : Frag) (E : XQ) (G : Hp) (g : Gh) (r : Res Fl) (b : Fl → L2.St → Gh → Hp → Sx → Prop) : Prop := match r with
  | .ok fl δ' => ∀ σ' g' H', Le g g' → RE K G g' H' σ' δ' → b fl σ' g' H' δ'
  | .exc x δ' => ∀ σ' g' H', Le g g' → RE K G g' H' σ' δ' → E x σ' H'
  | .bad => False
abbrev PostF (K : Frag) (E : XQ) (G : Hp) (g : Gh) (r : Res Fl) (B : Ends) : Prop := PostS K E G g r fun fl σ' g' H' _ => FlOk K B fl σ' g' H'
theorem PostS.ex {K : Frag} {E : XQ} {G : Hp} {g g1 : Gh} {r : Res Fl} {b : Fl → L2.St → Gh → Hp → Sx → Prop} (h : PostS K E G g r b) (e : Le g g1) : PostS K E G g1 r b := by
  cases r with
  | ok a δ' => exact fun σ' g' H' e' r => h σ' g' H' (e.trans e') r
  | exc x δ' => exact fun σ' g' H' e' r => h σ' g' H' (e.trans e') r
  | bad => exact h
def tOfS (K : Frag) (E : XQ) (m : M Fl) : TS := fun B σ H => ∃ (G : Hp) (g : Gh) (δ : Sx), RE K G g H σ δ ∧ PostF K E G g (m δ) B
section
variable {K : Frag} {E : XQ} {G : Hp} {g : Gh} {H : Hp} {σ : L2.St} {δ : Sx} {B : Ends}
theorem Cf.stepS {α : Type} {ma : M α} {f : α → M Fl} {R : Hp → α → Gh → Hp → Sx → Prop} (re : RE K G g H σ δ) (po : PostF K E G g (mBind ma f δ) B)
    (k : ∀ a g1 H1 δ1, Le g g1 → RE K G g1 H1 σ δ1 → PostF K E G g1 (f a δ1) B → R G a g1 H1 δ1) : Cf K E ma σ H R := by
  refine ⟨G, g, δ, re, ?_⟩
  unfold mBind at po
  cases h : ma δ with
  | ok a δ1 =>
    rw [h] at po
    exact fun g' H' e r => k a g' H' δ1 e r (PostS.ex po e)
  | exc x δ1 =>
    rw [h] at po
    exact fun g' H' e r => po σ g' H' e r
  | bad =>
    rw [h] at po
    exact po
theorem tOf.stepS {ma : M D} {f : D → M Fl} {R : V → Hp → Prop} (re : RE K G g H σ δ) (po : PostF K E G g (mBind ma f δ) B)
    (k : ∀ v d g1 H1 δ1, Le g g1 → RE K G g1 H1 σ δ1 → Rp K g1.h v d → PostF K E G g1 (f d δ1) B → R v H1) : tOf K E ma σ H R :=
  Cf.stepS re po fun d g1 H1 δ1 e r p v rv => k v d g1 H1 δ1 e r rv p
theorem tOfC.stepS {ma : M Cl} {f : Cl → M Fl} {R : V → Hp → Prop} (re : RE K G g H σ δ) (po : PostF K E G g (mBind ma f δ) B)
    (k : ∀ v c g1 H1 δ1, Le g g1 → RE K G g1 H1 σ δ1 → CR K g1 v c → PostF K E G g1 (f c δ1) B → R v H1) : tOfC K E ma σ H R :=
  Cf.stepS re po fun c g1 H1 δ1 e r p v rv => k v c g1 H1 δ1 e r rv p
theorem tOfL.stepS {ma : M Nat} {f : Nat → M Fl} {R : V → Hp → Prop} (re : RE K G g H σ δ) (po : PostF K E G g (mBind ma f δ) B)
    (k : ∀ a l g1 H1 δ1, Le g g1 → RE K G g1 H1 σ δ1 → g1.r[l]? = some a → PostF K E G g1 (f l δ1) B → R (.ref a) H1) : tOfL K E ma σ H R :=
  Cf.stepS re po fun l g1 H1 δ1 e r p a ha => k a l g1 H1 δ1 e r ha p
theorem PostS.of {fl : Fl} {b : Fl → L2.St → Gh → Hp → Sx → Prop} (po : PostS K E G g (.ok fl δ) b) (re : RE K G g H σ δ) : b fl σ g H δ := po σ g H (Le.refl _) re
end
section
variable {X : Cx} {E : XQ} {a b e o : Expr} {st : Stmt} {rest : List Stmt} {pos : Pos} {m mi : M D} {mc : M Cl} {ml : M Nat} {m1 m2 : M Fl}
def mSeq (m1 m2 : M Fl) : M Fl := fun δ => match m1 δ with
  | .ok .nx δ' => m2 δ'
  | r => r
def mNx : M Fl := mPure .nx
theorem jss_nil : PSs X [] (tOfS X.K E mNx) := pss_imp pss_nil fun B σ H ⟨G, g, δ, re, po⟩ => PostS.of po re
theorem jss_one (h : PS X st (tOfS X.K E m1)) : PSs X [st] (tOfS X.K E m1) := pss_one h
theorem jss_cons (h : PS X st (tOfS X.K E m1)) (t : PSs X rest (tOfS X.K E m2)) : PSs X (st :: rest) (tOfS X.K E (mSeq m1 m2)) :=
  pss_imp (pss_cons h t) fun B σ H ⟨G, g, δ, re, po⟩ => by
    refine ⟨G, g, δ, re, ?_⟩
    unfold mSeq at po
    cases q : m1 δ with
    | ok fl δ1 =>
      rw [q] at po
      cases fl with
      | nx => exact fun σ' g' H' e r => ⟨G, g', δ1, r, PostS.ex po e⟩
      | rt s => exact po
      | bk => exact po
      | ct => exact po
    | exc x δ1 =>
      rw [q] at po
      exact po
    | bad =>
      rw [q] at po
      exact po
def mExpr (m : M Cl) : M Fl := mBind m fun _ => mNx
theorem js_expr (h : PE X e (tOfC X.K E mc)) (hs : swapsWith e none pos.line X.env = pure false := by rfl) : PS X (.Expr e pos) (tOfS X.K E (mExpr mc)) :=
  pst_imp (ps_expr h hs) fun B σ H ⟨G, g, δ, re, po⟩ => tOfC.stepS re po fun v d g1 H1 δ1 e1 re1 r1 po1 => PostS.of po1 re1
def mRet (m : M Cl) : M Fl := mBind m fun c => mPure (.rt c)
theorem js_ret (h : PE X e (tOfC X.K E mc)) : PS X (.Return (some e) pos) (tOfS X.K E (mRet mc)) :=
  pst_imp (ps_ret h) fun B σ H ⟨G, g, δ, re, po⟩ => tOfC.stepS re po fun v d g1 H1 δ1 e1 re1 r1 po1 => PostS.of po1 re1 v r1
def mIfS (t : M Bool) (m1 m2 : M Fl) : M Fl := mBind t fun b => if b then m1 else m2
theorem js_if {c : Expr} {sa sb : List Stmt} {t : M Bool} (hc : PT X c (tOfT X.K E t)) (h1 : PSs X sa (tOfS X.K E m1)) (h2 : PSs X sb (tOfS X.K E m2)) : PS X (.If c sa sb pos) (tOfS X.K E (mIfS t m1 m2)) :=
  pst_imp (ps_if hc h1 h2) fun B σ H ⟨G, g, δ, re, po⟩ => Cf.stepS re po fun b g1 H1 δ1 e1 re1 po1 => by
    cases b with
    | true => exact ⟨G, g1, δ1, re1, po1⟩
    | false => exact ⟨G, g1, δ1, re1, po1⟩
/-- x = e -/
def mSet (i : Nat) (m : M Cl) : M Fl := mBind m fun c => fun δ => .ok .nx ⟨δ.e.set i c, δ.s⟩
theorem js_set {i : Nat} {x : Str} {pos' : Pos} (hN : X.N.Nodup) (hi : X.N[i]? = some x) (hx : Loc X.env.scope x) (h : PE X e (tOfC X.K E mc)) (hs : swapsWith e (some (.Name x pos')) pos.line X.env = pure false := by rfl) (hf : X.fn x = true ∨ X.env.scope.names.lookup x = some .local := by first | exact .inl rfl | exact .inr rfl | assumption) :
    PS X (.Assign [.Name x pos'] e pos) (tOfS X.K E (mSet i mc)) :=
  pst_imp (ps_set hN hi hx h hs hf) fun B σ H ⟨G, g, δ, re, po⟩ => tOfC.stepS re po fun v d g1 H1 δ1 e1 re1 r1 po1 => PostS.of po1 (re1.set r1)
/-- y[i] = e, y a list of the store -/
def mSetIx (ml : M Nat) (mi : M D) (mc : M Cl) : M Fl := mBind mc fun c => mBind ml fun l => mBind mi fun e δ => match δ.s[l]?, e with
  | some (.lst xs), .int n => match ixN xs.length n with
    | some j => .ok .nx ⟨δ.e, δ.s.set l (.lst (xs.set j c))⟩
    | none => .bad
  | _, _ => .bad
theorem js_setIx {p' : Pos} {i v : Expr} (ho : PE X o (tOfL X.K E ml)) (hi : PE X i (tOf X.K E mi)) (he : PE X v (tOfC X.K E mc))
    (ha : ∀ v, assign (.Subscript o i p') X.env v = (do
      let ov ← holding [v] (eval o X.env)
      let iv ← holding [v, ov] (eval i X.env)
      standAt p'
      holding [v, ov, iv] (setItem ov iv v)
      release [v, ov, iv] []) := by intro _; rfl)
    (hs : swapsWithSole [.Subscript o i p'] v pos.line X.env = pure false := by rfl) (hw : swappedStores [.Subscript o i p'] v X.env = pure none := by rfl)
    (h1 : (assignEach [.Subscript o i p'] X.env).map (·.2) = [assign (.Subscript o i p') X.env] := by rfl) : PS X (.Assign [.Subscript o i p'] v pos) (tOfS X.K E (mSetIx ml mi mc)) :=
  pst_imp (ps_asg he (pg_sub ho hi set_list ha) hs hw h1) fun B σ H ⟨G, g, δ, re, po⟩ => by
    refine tOfC.stepS re po fun w c g1 H1 δ1 e1 re1 r1 po1 => ?_
    refine tOfL.stepS re1 po1 fun q l g2 H2 δ2 e2 re2 r2 po2 => ?_
    refine tOf.stepS re2 po2 fun u d g3 H3 δ3 e3 re3 r3 po3 => ?_
    split at po3
    · rename_i xs n hx
      split at po3
      · rename_i j hj
        cases r3
        have ha' := e3.r _ _ r2
        obtain ⟨vs, h1, h2⟩ := re3.lstAt ha' hx
        refine ⟨q, vs, _, j, rfl, rfl, h1, by rw [h2.length]; exact hj, ?_⟩
        exact PostS.of po3 (re3.write hx rfl ha' (.lst (h2.set ((r1.le e2).le e3) j)))
      · exact po3.elim
    · exact po3.elim
theorem RE.ty {K : Frag} {G : Hp} {g : Gh} {H : Hp} {σ : L2.St} {δ : Sx} (re : RE K G g H σ δ) {l : Nat} {q : Addr} {xs : List Cl} (h : g.r[l]? = some q) (hx : δ.s[l]? = some (.lst xs)) : tyV K "list" (.ref q) H := by
  obtain ⟨vs, h1, h2⟩ := re.lstAt h hx
  exact .inl ⟨rfl, vs, .inl (.inl h1)⟩
/-- y.append(e) -/
def isLst (l : Nat) : M Nat := fun δ => match δ.s[l]? with
  | some (.lst _) => .ok l δ
  | _ => .bad
theorem isLst_ok (l : Nat) (δ : Sx) : isLst l δ = .bad ∨ ∃ xs, δ.s[l]? = some (.lst xs) ∧ isLst l δ = .ok l δ := by
  unfold isLst
  split
  · rename_i xs h
    exact .inr ⟨xs, h, rfl⟩
  · exact .inl rfl
def mIsL (ml : M Nat) : M Nat := mBind ml isLst
def mApp (ml : M Nat) (mc : M Cl) : M Fl := mBind (mIsL ml) fun l => mBind mc fun c δ => match δ.s[l]? with
  | some (.lst xs) => if xs.length < sizeLine then .ok .nx ⟨δ.e, δ.s.set l (.lst (xs ++ [c]))⟩ else .bad
  | _ => .bad
theorem isLS {K : Frag} {G : Hp} {g : Gh} {H : Hp} {σ : L2.St} {δ : Sx} {B : Ends} {f : Nat → M Fl} {R : V → Hp → Prop} (re : RE K G g H σ δ) (po : PostF K E G g (mBind (mIsL ml) f δ) B)
    (k : ∀ a l g1 H1 δ1, Le g g1 → RE K G g1 H1 σ δ1 → g1.r[l]? = some a → tyV K "list" (.ref a) H1 → PostF K E G g1 (f l δ1) B → R (.ref a) H1) : tOfL K E ml σ H R := by
  unfold mIsL at po
  rw [bind_assoc] at po
  refine tOfL.stepS re po fun a l g1 H1 δ1 e1 re1 r1 po1 => ?_
  have z : ∃ xs, δ1.s[l]? = some (.lst xs) ∧ PostF K E G g1 (f l δ1) B := by
    unfold mBind at po1
    rcases isLst_ok l δ1 with h | ⟨xs, hx, h⟩
    · rw [h] at po1; exact po1.elim
    · rw [h] at po1; exact ⟨xs, hx, po1⟩
  obtain ⟨xs, hx, po2⟩ := z
  exact k a l g1 H1 δ1 e1 re1 r1 (re1.ty r1 hx) po2
theorem js_app {apos cpos : Pos} {v : Expr} (ho : PE X o (tOfL X.K E ml)) (he : PE X v (tOfC X.K E mc))
    {PE0 : PE X (.Call (.Attribute o "append" apos) [v] [] cpos) (tBM X.K "list" rAppend (tOfL X.K E ml) (tCons (tOfC X.K E mc) tNil))}
    (hs : swapsWith (.Call (.Attribute o "append" apos) [v] [] cpos) none pos.line X.env = pure false := by rfl) : PS X (.Expr (.Call (.Attribute o "append" apos) [v] [] cpos) pos) (tOfS X.K E (mApp ml mc)) :=
  pst_imp (ps_expr PE0 hs) fun B σ H ⟨G, g, δ, re, po⟩ => by
    show tBM _ _ _ _ _ _ _ _
    unfold tBM
    refine isLS re po fun q l g1 H1 δ1 e1 re1 r1 ht po1 => ⟨ht, ?_⟩
    refine tOfC.stepS re1 po1 fun w c g2 H2 δ2 e2 re2 r2 po2 => ?_
    split at po2
    · rename_i xs hx
      split at po2
      · rename_i hl
        have ha' := e2.r _ _ r1
        obtain ⟨vs, h1, h2⟩ := re2.lstAt ha' hx
        refine ⟨q, vs, w, rfl, rfl, h1, by rw [h2.length]; exact hl, ?_⟩
        exact PostS.of po2 (re2.write hx rfl ha' (.lst (h2.snoc r2)))
      · exact po2.elim
    · exact po2.elim
/-- y.pop(i) -/
def mPopAt (ml : M Nat) (mi : M D) : M Cl := mBind (mIsL ml) fun l => mBind mi fun e δ => match δ.s[l]?, e with
  | some (.lst xs), .int n => if 0 ≤ n ∧ n < xs.length ∧ xs.length ≤ sizeLine then match xs[n.toNat]? with
    | some c => .ok c ⟨δ.e, δ.s.set l (.lst (xs.eraseIdx n.toNat))⟩
    | none => .bad
    else .bad
  | _, _ => .bad
theorem isL {K : Frag} {G : Hp} {g : Gh} {H : Hp} {σ : L2.St} {δ : Sx} {β : Type} {QQ : β → Gh → Hp → Sx → Prop} {f : Nat → M β} {R : V → Hp → Prop} (re : RE K G g H σ δ) (po : Post K E G g σ (mBind (mIsL ml) f δ) QQ)
    (k : ∀ a l g1 H1 δ1, Le g g1 → RE K G g1 H1 σ δ1 → g1.r[l]? = some a → tyV K "list" (.ref a) H1 → Post K E G g1 σ (f l δ1) QQ → R (.ref a) H1) : tOfL K E ml σ H R := by
  unfold mIsL at po
  rw [bind_assoc] at po
  refine tOfL.step re po fun a l g1 H1 δ1 e1 re1 r1 po1 => ?_
  have z : ∃ xs, δ1.s[l]? = some (.lst xs) ∧ Post K E G g1 σ (f l δ1) QQ := by
    unfold mBind at po1
    rcases isLst_ok l δ1 with h | ⟨xs, hx, h⟩
    · rw [h] at po1; exact po1.elim
    · rw [h] at po1; exact ⟨xs, hx, po1⟩
  obtain ⟨xs, hx, po2⟩ := z
  exact k a l g1 H1 δ1 e1 re1 r1 (re1.ty r1 hx) po2
end
end Ds
namespace Ds
open PySem PySem.Spec PyProof.Rows L2 Dn
abbrev MG (α : Type) := α → List Cl → Option (List Cl)
def gOf (K : Frag) (gv : List Nat) (mg : MG Cl) : TG := fun v σ H Q => ∃ (G : Hp) (g : Gh) (δ : Sx) (c : Cl), RE K G g H σ δ ∧ CR K g v c ∧
  ∃ e', mg c δ.e = some e' ∧ ∀ σ', RE K G g H σ' ⟨e', δ.s⟩ → Off gv σ σ' → Q σ' H
def gOfs (K : Frag) (gv : List Nat) (mg : MG (List Cl)) : TGs := fun vs σ H Q => ∃ (G : Hp) (g : Gh) (δ : Sx) (cs : List Cl), RE K G g H σ δ ∧ All2 (CR K g) vs cs ∧
  ∃ e', mg cs δ.e = some e' ∧ ∀ σ', RE K G g H σ' ⟨e', δ.s⟩ → Off gv σ σ' → Q σ' H
section
variable {X : Cx} {E : XQ} {pos : Pos} {e : Expr} {mc : M Cl}
def mgName (i : Nat) : MG Cl := fun c e => some (e.set i c)
theorem jg_name {i : Nat} {x : Str} (hN : X.N.Nodup) (hi : X.N[i]? = some x) (hx : Loc X.env.scope x) (hf : X.fn x = true ∨ X.env.scope.names.lookup x = some .local := by first | exact .inl rfl | exact .inr rfl | assumption) : PG X (.Name x pos) (gOf X.K [i] (mgName i)) :=
  pg_imp (pg_name hN hi hx hf) fun v σ H Q ⟨G, g, δ, c, re, r, e', h, po⟩ => by
    cases h
    exact po _ (re.set r) ⟨by simp, fun j hj => by rw [List.getElem?_set_ne (fun z => hj (by simp [z]))]⟩
def mgNil : MG (List Cl)
  | [], e => some e
  | _ :: _, _ => none
def mgCons (g : MG Cl) (gs : MG (List Cl)) : MG (List Cl)
  | c :: cs, e => (g c e).bind (gs cs)
  | [], _ => none
theorem jgs_nil : PGs X [] (gOfs X.K [] mgNil) := pgs_imp pgs_nil fun vs σ H Q ⟨G, g, δ, cs, re, r, e', h, po⟩ => by
  cases r with
  | nil =>
    cases h
    exact ⟨rfl, po σ re Off.refl⟩
  | cons _ _ => cases h
theorem jgs_cons {t : Expr} {ts : List Expr} {gv gw : List Nat} {mg : MG Cl} {mgs : MG (List Cl)} (h1 : PG X t (gOf X.K gv mg)) (h2 : PGs X ts (gOfs X.K gw mgs)) (hs : (assignEach (t :: ts) X.env).map (·.2) = assign t X.env :: (assignEach ts X.env).map (·.2) := by rfl) : PGs X (t :: ts) (gOfs X.K (gv ++ gw) (mgCons mg mgs)) :=
  pgs_imp (pgs_cons h1 h2 hs) fun vs σ H Q ⟨G, g, δ, cs, re, r, e', h, po⟩ => by
    cases r with
    | nil => cases h
    | cons r1 rs =>
      obtain ⟨e1, h1, h2⟩ := Option.bind_eq_some_iff.mp h
      exact ⟨_, _, rfl, G, g, δ, _, re, r1, e1, h1, fun σ' re' of => ⟨G, g, _, _, re', rs, e', h2, fun σ2 re2 of2 => po σ2 re2 (of.trans of2)⟩⟩
def mgLen (n : Nat) (gs : MG (List Cl)) : MG (List D) := fun ds e => if ds.length = n then gs (ds.map Cl.sh) e else none
def mgTup (n : Nat) (gs : MG (List Cl)) : MG Cl
  | .sh (.tuple ds), e => mgLen n gs ds e
  | .tp cs, e => if cs.length = n then gs cs e else none
  | _, _ => none
def mgLst (n : Nat) (gs : MG (List Cl)) : MG Cl
  | .sh (.list ds), e => mgLen n gs ds e
  | _, _ => none
theorem mgLen_some {n : Nat} {gs : MG (List Cl)} {ds : List D} {e e' : List Cl} (h : mgLen n gs ds e = some e') : ds.length = n ∧ gs (ds.map Cl.sh) e = some e' := by
  unfold mgLen at h
  by_cases hl : ds.length = n
  · rw [if_pos hl] at h; exact ⟨hl, h⟩
  · rw [if_neg hl] at h; cases h
theorem jg_tup {ts : List Expr} {k n : Nat} {gv : List Nat} {mgs : MG (List Cl)} (hc : X.calm = true) (h : PGs X ts (gOfs X.K gv mgs)) (hn : (assignEach ts X.env).length = n := by rfl) (hst : (assignEach ts X.env).findIdx? (·.1) = none := by rfl) : PG X (.Tuple ts k pos) (gOf X.K gv (mgTup n mgs)) :=
  pg_imp (pg_tup (n := n) hc h hn hst) fun v σ H Q ⟨G, g, δ, c, re, r, e', h, po⟩ => by
    cases r with
    | lo _ => cases h
    | sh r =>
      cases r with
      | tup h1 t =>
        obtain ⟨hl, h2⟩ := mgLen_some h
        exact ⟨_, _, rfl, sqT_ex re.ex h1, by rw [t.length]; exact hl, G, g, δ, _, re, rps_cr t, e', h2, po⟩
      | _ => cases h
    | @tp a vs cs h1 t =>
      have h : (if cs.length = n then mgs cs δ.e else none) = some e' := h
      by_cases hl : cs.length = n
      · rw [if_pos hl] at h
        exact ⟨_, _, rfl, sqT_ex re.ex h1, by rw [(CRt.a t).length]; exact hl, G, g, δ, _, re, CRt.a t, e', h, po⟩
      · rw [if_neg hl] at h; cases h
theorem jg_lst {ts : List Expr} {k n : Nat} {gv : List Nat} {mgs : MG (List Cl)} (hc : X.calm = true) (h : PGs X ts (gOfs X.K gv mgs)) (hn : (assignEach ts X.env).length = n := by rfl) (hst : (assignEach ts X.env).findIdx? (·.1) = none := by rfl) : PG X (.Tuple ts k pos) (gOf X.K gv (mgLst n mgs)) :=
  pg_imp (pg_unl (n := n) hc h hn hst) fun v σ H Q ⟨G, g, δ, c, re, r, e', h, po⟩ => by
    cases r with
    | lo _ => cases h
    | sh r =>
      cases r with
      | lst h1 t =>
        obtain ⟨hl, h2⟩ := mgLen_some h
        exact ⟨_, _, rfl, sqL_ex re.ex h1, by rw [t.length]; exact hl, G, g, δ, _, re, rps_cr t, e', h2, po⟩
      | _ => cases h
    | tp h1 t => cases h
/-- targets = e -/
def mAsg (mg : MG Cl) (m : M Cl) : M Fl := mBind m fun c δ => match mg c δ.e with
  | some e' => .ok .nx ⟨e', δ.s⟩
  | none => .bad
theorem js_asg {tg : Expr} {gv : List Nat} {mg : MG Cl} (h : PE X e (tOfC X.K E mc)) (hg : PG X tg (gOf X.K gv mg)) (hs : swapsWithSole [tg] e pos.line X.env = pure false := by rfl) (hw : swappedStores [tg] e X.env = pure none := by rfl)
    (h1 : (assignEach [tg] X.env).map (·.2) = [assign tg X.env] := by rfl) : PS X (.Assign [tg] e pos) (tOfS X.K E (mAsg mg mc)) :=
  pst_imp (ps_asg h hg hs hw h1) fun B σ H ⟨G, g, δ, re, po⟩ => tOfC.stepS re po fun v c g1 H1 δ1 e1 re1 r1 po1 => by
    split at po1
    · rename_i e' he
      exact ⟨G, g1, δ1, c, re1, r1, e', he, fun σ' re' _ => po1 σ' g1 H1 (Le.refl _) re'⟩
    · exact po1.elim
end
def ItOk (K : Frag) (Hs : Hp) (J : It) (ds : List D) : Prop := ∀ Hs1 H1, Ex Hs Hs1 → Ex Hs1 H1 → ∀ i : Nat,
  (∀ d, ds[i]? = some d → J.go i H1 ∧ ∀ x H2, J.yld i H1 x H2 → ∃ Hs2, Gs Hs1 H1 Hs2 H2 ∧ Rp K Hs2 x d) ∧ (ds[i]? = none → J.stop i H1)
theorem ItOk.of {K : Frag} {Hs : Hp} {J : It} {ds : List D} (h : Dn.ItOk K Hs J ds) : ItOk K Hs J ds := fun Hs1 H1 e1 e2 i => ⟨fun d hd => ⟨((h Hs1 H1 e1 e2 i).1 d hd).1, fun x H2 y => by
  obtain ⟨Hs2, g, r⟩ := ((h Hs1 H1 e1 e2 i).1 d hd).2 x H2 y
  exact ⟨Hs2, .of g, r⟩⟩, (h Hs1 H1 e1 e2 i).2⟩
def tOfI (K : Frag) (E : XQ) (m : M (List D)) : TI := fun σ H R => Cf K E m σ H fun _ ds g' H' _ => ∀ J, ItOk K g'.h J ds → R J H'
section
variable {X : Cx} {E : XQ} {tg e : Expr} {pos : Pos} {m : M D}
def mIter (m : M D) : M (List D) := mBind m fun d => mOpt (dItems d)
theorem ji_any (h : PE X e (tOf X.K E m)) : PI X tg e (tOfI X.K E (mIter m)) :=
  pi_imp (pi_anyR h) fun σ H R ⟨G, g, δ, re, po⟩ => tOf.step re po fun v d g1 H1 δ1 e1 re1 r1 po1 => by
    obtain ⟨ds, hd, po2⟩ := Post.opt po1
    cases r1 with
    | lst h t =>
      obtain rfl := Option.some.inj hd
      exact .inl ⟨_, rfl, ⟨_, sqL_ex re1.ex h⟩, Post.of po2 re1 _ (.of (it_list h t))⟩
    | tup h t =>
      obtain rfl := Option.some.inj hd
      exact .inr (.inl ⟨_, rfl, ⟨_, sqT_ex re1.ex h⟩, Post.of po2 re1 _ (.of (it_tup h t))⟩)
    | str z =>
      obtain rfl := Option.some.inj hd
      exact .inr (.inr ⟨z, rfl, Post.of po2 re1 _ (.of it_str)⟩)
    | _ => simp [dItems] at hd
def mRng1 (m : M D) : M (List D) := mBind m fun d => mOpt (bRng1 d)
def mRng2 (ma mb : M D) : M (List D) := mBind ma fun d => mBind mb fun e => mOpt (bRng2 d e)
theorem ji_range1 {a : Expr} {p : Pos} {ma : M D} (hg : Gl X "range") (hm : X.mg "range" = none) (ha : PE X a (tOf X.K E ma)) (hs : starEach [a] X.env = [(false, eval a X.env)] := by rfl) : PI X tg (.Call (.Name "range" p) [a] [] pos) (tOfI X.K E (mRng1 ma)) :=
  pi_imp (pi_range1 hg hm (pa_cons ha pa_nil hs) hs) fun σ H R ⟨G, g, δ, re, po⟩ => tOf.step re po fun v d g1 H1 δ1 e1 re1 r1 po1 => by
    obtain ⟨ds, hd, po2⟩ := Post.opt po1
    cases r1 with
    | int j =>
      simp only [bRng1, Option.ite_none_right_eq_some, Option.some.injEq] at hd
      obtain ⟨hl, hd⟩ := hd
      subst hd
      have hl' := of_decide_eq_true hl
      exact ⟨j, rfl, hl'.1, hl'.2, Post.of po2 re1 _ (.of it_rng)⟩
    | _ => simp [bRng1] at hd
def forL (mg : MG Cl) (mb : M Fl) : List D → M Fl
  | [] => mNx
  | d :: ds => fun δ => match mg (.sh d) δ.e with
    | some e' => match mb ⟨e', δ.s⟩ with
      | .ok .nx δ2 => forL mg mb ds δ2
      | .ok .ct δ2 => forL mg mb ds δ2
      | .ok .bk δ2 => .ok .nx δ2
      | .ok (.rt s) δ2 => .ok (.rt s) δ2
      | .exc x δ2 => .exc x δ2
      | .bad => .bad
    | none => .bad
def mFor (mi : M (List D)) (mg : MG Cl) (mb : M Fl) : M Fl := mBind mi (forL mg mb)
theorem js_for {iter : Expr} {body : List Stmt} {mi : M (List D)} {gv : List Nat} {mg : MG Cl} {mb : M Fl} (hpa : PassesOwn (model X.prog X.w) X.A X.env X.xe) (hc : X.calm = true) (hi : PI X tg iter (tOfI X.K E mi)) (hg : PG X tg (gOf X.K gv mg)) (hb : PSs X body (tOfS X.K E mb))
    (hs : ∀ x, foldedSetIterable iter X.env x = pure x := by intro _; rfl) : PS X (.For tg iter body [] pos) (tOfS X.K E (mFor mi mg mb)) :=
  pst_imp (ps_for hpa hc hi hg hb hs) fun B σ H ⟨G, g, δ, re, po⟩ => Cf.stepS re po fun ds g1 H1 δ1 e1 re1 po1 J hJ => by
    refine ⟨fun i m σ' H' => m = ds.length - i ∧ i ≤ ds.length ∧ ∃ g2 δ2, Le g1 g2 ∧ RE X.K G g2 H' σ' δ2 ∧ PostF X.K E G g2 (forL mg mb (ds.drop i) δ2) B, ⟨ds.length, rfl, Nat.zero_le _, g1, δ1, Le.refl _, re1, po1⟩, ?_⟩
    rintro i m σ' H' ⟨hm, hi, g2, δ2, e2, re2, po2⟩
    obtain ⟨j1, j2⟩ := hJ g2.h H' e2.h re2.ex i
    by_cases hlt : i < ds.length
    · have hd : ds[i]? = some ds[i] := List.getElem?_eq_getElem hlt
      obtain ⟨k1, k2⟩ := j1 _ hd
      refine .inr ⟨k1, fun σ3 H3 => ∃ g3 δ3, Le g1 g3 ∧ RE X.K G g3 H3 σ3 δ3 ∧ PostF X.K E G g3 (forL mg mb (ds.drop (i + 1)) δ3) B, fun σ3 H3 ⟨g3, δ3, e3, re3, po3⟩ => ⟨ds.length - (i + 1), by omega, rfl, hlt, g3, δ3, e3, re3, po3⟩, fun x H3 y => ?_⟩
      obtain ⟨Hs3, gr, rx⟩ := k2 x H3 y
      have w := Grw.ofS gr
      have re3 := re2.grow w
      have po3 := PostS.ex po2 w.le
      rw [List.drop_eq_getElem_cons hlt] at po3
      unfold forL at po3
      cases q : mg (.sh ds[i]) δ2.e with
      | some e' =>
        rw [q] at po3
        refine ⟨G, _, δ2, _, re3, .sh rx, e', q, fun σ4 re4 _ => ⟨G, _, _, re4, ?_⟩⟩
        dsimp only at po3
        have ea := e2.trans w.le
        cases z : mb ⟨e', δ2.s⟩ with
        | ok fl δ5 =>
          rw [z] at po3
          cases fl with
          | nx => exact fun σ5 g5 H5 e5 re5 => ⟨g5, δ5, ea.trans e5, re5, PostS.ex po3 e5⟩
          | ct => exact fun σ5 g5 H5 e5 re5 => ⟨g5, δ5, ea.trans e5, re5, PostS.ex po3 e5⟩
          | bk => exact fun σ5 g5 H5 e5 re5 => po3 σ5 g5 H5 e5 re5
          | rt s => exact fun σ5 g5 H5 e5 re5 => po3 σ5 g5 H5 e5 re5
        | exc x δ5 =>
          rw [z] at po3
          exact fun σ5 g5 H5 e5 re5 => po3 σ5 g5 H5 e5 re5
        | bad => rw [z] at po3; exact po3
      | none => rw [q] at po3; exact po3.elim
    · have e : i = ds.length := by omega
      subst e
      rw [List.drop_length] at po2
      exact .inl ⟨j2 (List.getElem?_eq_none_iff.mpr (Nat.le_refl _)), PostS.of po2 re2⟩
end
def wipeE (e : List Cl) : List Nat → List Cl
  | [] => e
  | v :: vs => (wipeE e vs).set v .no
def backE (e1 e2 : List Cl) : List Nat → List Cl
  | [] => e2
  | v :: vs => (backE e1 e2 vs).set v (e1.getD v .no)
theorem wipeE_length (δ : List Cl) : ∀ vs, (wipeE δ vs).length = δ.length
  | [] => rfl
  | v :: vs => by unfold wipeE; rw [List.length_set, wipeE_length δ vs]
theorem backE_length (δ1 δ2 : List Cl) : ∀ vs, (backE δ1 δ2 vs).length = δ2.length
  | [] => rfl
  | v :: vs => by unfold backE; rw [List.length_set, backE_length δ1 δ2 vs]
theorem wipeE_in {δ : List Cl} {i : Nat} {s : Cl} : ∀ {vs : List Nat}, i ∈ vs → (wipeE δ vs)[i]? = some s → s = .no
  | v :: vs, h, q => by
    unfold wipeE at q
    rcases setGet q with ⟨_, z⟩ | ⟨hj, z⟩
    · exact z
    · rcases List.mem_cons.mp h with e | h
      · exact absurd e hj
      · exact wipeE_in h z
theorem wipeE_out {δ : List Cl} {i : Nat} : ∀ {vs : List Nat}, i ∉ vs → (wipeE δ vs)[i]? = δ[i]?
  | [], _ => rfl
  | v :: vs, h => by
    unfold wipeE
    have hne : v ≠ i := fun z => h (by simp [z])
    rw [List.getElem?_set_ne hne]
    exact wipeE_out fun z => h (List.mem_cons_of_mem _ z)
theorem backE_in {δ1 δ2 : List Cl} {i : Nat} {s : Cl} : ∀ {vs : List Nat}, i ∈ vs → (backE δ1 δ2 vs)[i]? = some s → s = δ1.getD i .no
  | v :: vs, h, q => by
    unfold backE at q
    rcases setGet q with ⟨hv, z⟩ | ⟨hj, z⟩
    · rw [hv]; exact z
    · rcases List.mem_cons.mp h with e | h
      · exact absurd e hj
      · exact backE_in h z
theorem backE_out {δ1 δ2 : List Cl} {i : Nat} : ∀ {vs : List Nat}, i ∉ vs → (backE δ1 δ2 vs)[i]? = δ2[i]?
  | [], _ => rfl
  | v :: vs, h => by
    unfold backE
    have hne : v ≠ i := fun z => h (by simp [z])
    rw [List.getElem?_set_ne hne]
    exact backE_out fun z => h (List.mem_cons_of_mem _ z)
section
variable {K : Frag} {G : Hp} {g g' : Gh} {H H' : Hp} {σ : L2.St} {δ δ' : Sx} {vs : List Nat}
theorem RE.wipe (re : RE K G g H σ δ) : RE K G g H (L2.wipe σ vs) ⟨wipeE δ.e vs, δ.s⟩ := by
  have r1 : RE K G g H σ ⟨wipeE δ.e vs, δ.s⟩ := re.less (wipeE_length δ.e vs) (fun i s q => by
    by_cases hi : i ∈ vs
    · exact .inl (wipeE_in hi q)
    · rw [wipeE_out hi] at q; exact .inr q)
  refine r1.sig (L2.wipe_length σ vs) fun i s q hn => ?_
  by_cases hi : i ∈ vs
  · exact absurd (wipeE_in hi q) hn
  · exact L2.wipe_out hi
/-- behind a block: its own names are as they were ahead of it -/
theorem RE.back (re : RE K G g H σ δ) (re2 : RE K G g' H' (L2.wipe σ vs) δ') (e : Le g g') : RE K G g' H' σ ⟨backE δ.e δ'.e vs, δ'.s⟩ :=
  re2.slots (by rw [backE_length, ← re2.len, L2.wipe_length]) fun i c q hc => by
    by_cases hi : i ∈ vs
    · have z := backE_in hi q
      have hg : δ.e[i]? = some c := by
        rw [List.getD_eq_getElem?_getD] at z
        cases w : δ.e[i]? with
        | none => rw [w] at z; exact absurd z hc
        | some s => rw [w] at z; exact congrArg some z.symm
      obtain ⟨v, h1, h2⟩ := re.sl i c hg hc
      exact ⟨v, h1, h2.le e⟩
    · rw [backE_out hi] at q
      obtain ⟨v, h1, h2⟩ := re2.sl i c q hc
      rw [L2.wipe_out hi] at h1
      exact ⟨v, h1, h2⟩
/-- a list in the making is lent out to nobody -/
theorem RE.hide {C : Addr} {xs : List Cl} {acc : List V} (re : RE K G g H σ δ) (f : FrO K G g H C xs) (ha : H C = some (.lst acc)) : RE K (upd G C (.lst acc)) g H σ δ where
  ex := re.ex
  fg := fun a o q => by
    by_cases e : a = C
    · subst e
      rw [upd_same] at q
      cases q
      exact ⟨ha, f.hs, f.nr⟩
    · rw [upd_ne e] at q
      exact re.fg a o q
  len := re.len
  rl := re.rl
  sl := re.sl
  ob := re.ob
  nd := re.nd
  al := re.al
  nt := fun a ys q => by
    have e : a ≠ C := fun z => by subst z; rw [ha] at q; cases q
    rw [upd_ne e]
    exact re.nt a ys q
  gx := fun a fs q => by
    by_cases e : a = C
    · subst e; rw [upd_same] at q; cases q
    · rw [upd_ne e] at q; exact re.gx a fs q
  fz := re.fz
theorem RE.shown {C : Addr} {o u : HO} (re : RE K (upd G C o) g H σ δ) (hg : G C = none) : RE K G g (upd H C u) σ δ where
  ex := fun a o' q => by
    have h := (re.fg C o upd_same).2.1
    have e : a ≠ C := fun z => by rw [z, h] at q; cases q
    rw [upd_ne e]
    exact re.ex a o' q
  fg := fun a o' q => by
    have e : a ≠ C := fun z => by rw [z, hg] at q; cases q
    rw [upd_ne e]
    exact re.fg a o' (by rw [upd_ne e]; exact q)
  len := re.len
  rl := re.rl
  sl := re.sl
  ob := fun l o' q w => by
    obtain ⟨a, u', h1, h2, h3, h4⟩ := re.ob l o' q w
    have e : a ≠ C := fun z => (re.fg C o upd_same).2.2 (z ▸ List.mem_of_getElem? h1)
    exact ⟨a, u', h1, by rw [upd_ne e]; exact h2, h3, h4⟩
  nd := re.nd
  al := fun a ha => by
    by_cases e : a = C
    · subst e; rw [upd_same]; simp
    · rw [upd_ne e]; exact re.al a ha
  nt := fun a ys q => by
    by_cases e : a = C
    · subst e; exact ⟨(re.fg a o upd_same).2.2, hg⟩
    · rw [upd_ne e] at q
      have := re.nt a ys q
      rw [upd_ne e] at this
      exact this
  gx := fun a fs q => by
    by_cases e : a = C
    · subst e; rw [hg] at q; cases q
    · exact re.gx a fs (by rw [upd_ne e]; exact q)
  fz := re.fz
end
def mWipe (vs : List Nat) : M Unit := fun δ => .ok () ⟨wipeE δ.e vs, δ.s⟩
def compL (vs : List Nat) (mg : MG Cl) (mt : M Bool) (me : M D) : List D → M (List D)
  | [] => mPure []
  | d :: ds => fun δ => match mg (.sh d) δ.e with
    | some e' => mBind mt (fun b => if b then mBind me (fun y => mBind (mWipe vs) fun _ => mBind (compL vs mg mt me ds) fun ys => mPure (y :: ys)) else mBind (mWipe vs) fun _ => compL vs mg mt me ds) ⟨e', δ.s⟩
    | none => .bad
def compE (vs : List Nat) (mg : MG Cl) (mt : M Bool) (me : M D) (ds : List D) : M (List Cl) := fun δ =>
  if ds.length ≤ sizeLine then
    match compL vs mg mt me ds ⟨wipeE δ.e vs, δ.s⟩ with
    | .ok ys δ2 => .ok (ys.map Cl.sh) ⟨backE δ.e δ2.e vs, δ2.s⟩
    | _ => .bad
  else .bad
def mComp (mi : M (List D)) (vs : List Nat) (mg : MG Cl) (mt : M Bool) (me : M D) : M (List Cl) := mBind mi (compE vs mg mt me)
def mYes : M Bool := mPure true
end Ds
namespace Ds
open PySem PySem.Spec PyProof.Rows L2 Dn
section
variable {X : Cx} {E : XQ} {tg e elt iter : Expr} {ifs : List Expr} {pos : Pos} {vs gv : List Nat} {mi : M (List D)} {mg : MG Cl} {mt : M Bool} {me : M D}
/-- what a comprehension's block makes, read off its parts -/
theorem lc_read (hgv : ∀ i ∈ gv, i ∈ vs) {σ : L2.St} {H : Hp} {Q : VK} (h : tOfO X.K E (mComp mi vs mg mt me) σ H Q) :
    tLc (tOfI X.K E mi) (gOf X.K gv mg) (tOfT X.K noX mt) (tOf X.K noX me) vs σ H Q := by
  obtain ⟨G, g, δ, re, po⟩ := h
  refine Cf.step re po fun ds g1 H1 δ1 e1 re1 po1 J hJ C hC => ?_
  unfold compE at po1
  split at po1
  · rename_i hlen
    cases hcl : compL vs mg mt me ds ⟨wipeE δ1.e vs, δ1.s⟩ with
    | ok ys δf =>
      rw [hcl] at po1
      have en : Ex H1 (upd H1 C (.lst [])) := ex_new hC
      have gC : G C = none := by
        cases q : G C with
        | none => rfl
        | some u => have := (re1.fg C u q).1; rw [hC] at this; cases this
      have re2 := (re1.newH en).wipe (vs := vs)
      have f0 : FrO X.K G g1 (upd H1 C (.lst [])) C [] := FrO.new re1 hC .nil
      refine ⟨fun i m H' => m = ds.length - i ∧ i ≤ ds.length ∧ ∃ g2 δ2 done ys2, Le g1 g2 ∧ RE X.K G g2 H' (L2.wipe σ vs) δ2 ∧ FrO X.K G g2 H' C (done.map Cl.sh) ∧ done.length ≤ i ∧ compL vs mg mt me (ds.drop i) δ2 = .ok ys2 δf ∧ done ++ ys2 = ys,
        ⟨ds.length, rfl, Nat.zero_le _, g1, _, [], ys, Le.refl _, re2, f0, Nat.le_refl _, hcl, rfl⟩, ?_⟩
      rintro i m H' ⟨hm, hi, g2, δ2, done, ys2, e2, re3, f3, hdl, hc3, hys⟩
      obtain ⟨j1, j2⟩ := hJ g2.h H' e2.h re3.ex i
      by_cases hlt : i < ds.length
      · have hd : ds[i]? = some ds[i] := List.getElem?_eq_getElem hlt
        obtain ⟨k1, k2⟩ := j1 _ hd
        refine .inr ⟨k1, fun H3 => ∃ g3 δ3 done ys2, Le g1 g3 ∧ RE X.K G g3 H3 (L2.wipe σ vs) δ3 ∧ FrO X.K G g3 H3 C (done.map Cl.sh) ∧ done.length ≤ i + 1 ∧ compL vs mg mt me (ds.drop (i + 1)) δ3 = .ok ys2 δf ∧ done ++ ys2 = ys,
          fun H3 hN => ⟨ds.length - (i + 1), by omega, rfl, hlt, hN⟩, fun x H3 y => ?_⟩
        obtain ⟨Hs3, gr, rx⟩ := k2 x H3 y
        have w := Grw.ofS gr
        obtain ⟨acc, ha, hr⟩ := f3.at_
        have re4 := re3.grow w
        have z3 : Hs3 C = none := by
          rcases gr.f C (by rw [ha]; simp) with z | ⟨ys, z⟩
          · rw [z]; exact f3.hs
          · rw [ha] at z; cases z
        have f4 : FrO X.K G ⟨g2.r, Hs3⟩ H3 C (done.map Cl.sh) := ⟨⟨acc, gr.h C _ ha, CRs.le w.le hr⟩, z3, f3.gg, f3.nr⟩
        have re5 := re4.hide f4 (gr.h C _ ha)
        rw [List.drop_eq_getElem_cons hlt] at hc3
        unfold compL at hc3
        cases q : mg (.sh ds[i]) δ2.e with
        | some e' =>
          rw [q] at hc3
          refine ⟨upd G C (.lst acc), ⟨g2.r, Hs3⟩, δ2, _, re5, .sh rx, e', q, fun σ4 re6 of4 => ⟨wipe_off of4 hgv, ?_⟩⟩
          dsimp only at hc3
          -- a turn's end: the names wiped, the list as it is then
          have turn : ∀ {g5 : Gh} {H5 : Hp} {δ5 : Sx} {u : HO}, RE X.K (upd G C (.lst acc)) g5 H5 σ4 δ5 → RE X.K G g5 (upd H5 C u) (L2.wipe σ vs) ⟨wipeE δ5.e vs, δ5.s⟩ ∧ g5.h C = none ∧ H5 C = some (.lst acc) ∧ C ∉ g5.r := fun {g5 H5 δ5 u} re7 => by
            have rw7 := re7.wipe (vs := vs)
            rw [wipe_off of4 hgv] at rw7
            have hf := re7.fg C (.lst acc) upd_same
            exact ⟨rw7.shown gC, hf.2.1, hf.1, hf.2.2⟩
          have ew := e2.trans w.le
          refine ⟨_, _, ⟨e', δ2.s⟩, re6, ?_⟩
          cases zt : mt ⟨e', δ2.s⟩ with
          | ok b δ5 =>
            rw [show mBind mt _ ⟨e', δ2.s⟩ = _ from by unfold mBind; rw [zt]] at hc3
            dsimp only at hc3
            refine fun g5 H5 e5 re7 => ?_
            cases b with
            | true =>
              rw [if_pos rfl] at hc3 ⊢
              refine ⟨_, g5, δ5, re7, ?_⟩
              cases ze : me δ5 with
              | ok yv δ6 =>
                rw [ze] at hc3
                refine fun g6 H6 e6 re8 v rv => ?_
                obtain ⟨t1, t3, t4, t5⟩ := turn (u := .lst (acc ++ [v])) re8
                have hal : acc.length = done.length := by rw [hr.length, List.length_map]
                refine ⟨acc, t4, by omega, ?_⟩
                have hc4 : mBind (compL vs mg mt me (ds.drop (i + 1))) (fun ys => mPure (yv :: ys)) ⟨wipeE δ6.e vs, δ6.s⟩ = .ok ys2 δf := hc3
                cases zr : compL vs mg mt me (ds.drop (i + 1)) ⟨wipeE δ6.e vs, δ6.s⟩ with
                | ok ys3 δ7 =>
                  unfold mBind at hc4
                  rw [zr] at hc4
                  have hc5 : Res.ok (yv :: ys3) δ7 = Res.ok ys2 δf := hc4
                  injection hc5 with k1 k2
                  subst k1; subst k2
                  have e16 : Le g1 g6 := (ew.trans e5).trans e6
                  refine ⟨g6, _, done ++ [yv], ys3, e16, t1, ⟨⟨acc ++ [v], upd_same, ?_⟩, t3, gC, t5⟩, by simp; exact hdl, zr, by rw [← hys]; simp⟩
                  rw [List.map_append]
                  exact (CRs.le ((w.le.trans e5).trans e6) hr).snoc (.sh rv)
                | exc x δ7 => unfold mBind at hc4; rw [zr] at hc4; cases hc4
                | bad => unfold mBind at hc4; rw [zr] at hc4; cases hc4
              | exc x δ6 => rw [ze] at hc3; cases hc3
              | bad => rw [ze] at hc3; cases hc3
            | false =>
              rw [if_neg Bool.false_ne_true] at hc3 ⊢
              obtain ⟨t1, t3, t4, t5⟩ := turn (u := .lst acc) re7
              have hu : upd H5 C (.lst acc) = H5 := by
                funext b
                by_cases hb : b = C
                · subst hb; rw [upd_same, t4]
                · rw [upd_ne hb]
              rw [hu] at t1
              have hc4 : compL vs mg mt me (ds.drop (i + 1)) ⟨wipeE δ5.e vs, δ5.s⟩ = .ok ys2 δf := hc3
              exact ⟨g5, _, done, ys2, ew.trans e5, t1, ⟨⟨acc, t4, CRs.le (w.le.trans e5) hr⟩, t3, gC, t5⟩, by omega, hc4, hys⟩
          | exc x δ5 => rw [show mBind mt _ ⟨e', δ2.s⟩ = _ from by unfold mBind; rw [zt]] at hc3; cases hc3
          | bad => rw [show mBind mt _ ⟨e', δ2.s⟩ = _ from by unfold mBind; rw [zt]] at hc3; cases hc3
        | none => rw [q] at hc3; cases hc3
      · have ei : i = ds.length := by omega
        subst ei
        rw [List.drop_length] at hc3
        have hc4 : Res.ok ([] : List D) δ2 = Res.ok ys2 δf := hc3
        injection hc4 with k1 k2
        subst k1; subst k2
        rw [List.append_nil] at hys
        subst hys
        refine .inl ⟨j2 (List.getElem?_eq_none_iff.mpr (Nat.le_refl _)), ?_⟩
        exact po1 g2 H' e2 (re1.back re3 e2) C f3
    | exc x δf => rw [hcl] at po1; exact po1.elim
    | bad => rw [hcl] at po1; exact po1.elim
  · exact po1.elim
theorem jts_nil : PTs X [] (tOfT X.K E mYes) := ⟨fun pins s σ H Q I ⟨G, g, δ, re, po⟩ => pts_nil.run pins s σ H Q I (Post.of po re)⟩
theorem jts_one {c : Expr} (h : PT X c (tOfT X.K E mt)) : PTs X [c] (tOfT X.K E mt) := pts_one h
theorem jo_comp {scope : Scope} {own : List (Str × Nat)} (hgv : ∀ i ∈ gv, i ∈ own.map (·.2)) (hc : X.calm = true) (hN : X.N.Nodup) (hi : PI X tg iter (tOfI X.K E mi)) (ok : BlkOk X.N X.env.scope scope own)
    (hg : ∀ (s : Shared) (H : Hp) (C : Addr) (cl : List (Str × Addr)) (fp : List Addr), PG (X.blk s H scope (compEnvC scope cl C X.env) fp) tg (gOf X.K gv mg)) (ht : ∀ (s : Shared) (H : Hp) (C : Addr) (cl : List (Str × Addr)) (fp : List Addr), PTs (X.blk s H scope (compEnvC scope cl C X.env) fp) ifs (tOfT X.K noX mt))
    (he : ∀ (s : Shared) (H : Hp) (C : Addr) (cl : List (Str × Addr)) (fp : List Addr), PE (X.blk s H scope (compEnvC scope cl C X.env) fp) elt (tOf X.K noX me)) (hs : ∀ x, foldedSetIterable iter X.env x = pure x := by intro _; rfl) :
    PE X (.ListComp elt [⟨tg, iter, ifs, 0⟩] scope pos) (tOfO X.K E (mComp mi (own.map (·.2)) mg mt me)) :=
  pe_imp (pe_lc hc hN hi ok hg ht he hs) fun σ H Q h => lc_read hgv h
/-- y = [..] on one line -/
theorem js_lc {i : Nat} {y : Str} {py : Pos} {scope : Scope} {own : List (Str × Nat)} {spos : Pos} {mc : M (List Cl) → M Cl} (hgv : ∀ i ∈ gv, i ∈ own.map (·.2)) (hc : X.calm = true) (hN : X.N.Nodup) (hy : X.N[i]? = some y) (hyl : X.env.scope.names.lookup y = some .local)
    (hmc : ∀ (m : M (List Cl)) (σ : L2.St) (H : Hp) (Q : VK), tOfC X.K E (mc m) σ H Q → tOfO X.K E m σ H Q)
    (hsw : swapsWith (.ListComp elt [⟨tg, iter, ifs, 0⟩] scope pos) (some (.Name y py)) spos.line X.env = pure true) (hi : PI X tg iter (tOfI X.K E mi)) (ok : BlkOk X.N X.env.scope scope own)
    (hg : ∀ (s : Shared) (H : Hp) (C : Addr) (cl : List (Str × Addr)) (fp : List Addr), PG (X.blk s H scope (compEnvC scope cl C X.env) fp) tg (gOf X.K gv mg)) (ht : ∀ (s : Shared) (H : Hp) (C : Addr) (cl : List (Str × Addr)) (fp : List Addr), PTs (X.blk s H scope (compEnvC scope cl C X.env) fp) ifs (tOfT X.K noX mt))
    (he : ∀ (s : Shared) (H : Hp) (C : Addr) (cl : List (Str × Addr)) (fp : List Addr), PE (X.blk s H scope (compEnvC scope cl C X.env) fp) elt (tOf X.K noX me)) (hs : ∀ x, foldedSetIterable iter X.env x = pure x := by intro _; rfl) :
    PS X (.Assign [.Name y py] (.ListComp elt [⟨tg, iter, ifs, 0⟩] scope pos) spos) (tOfS X.K E (mSet i (mc (mComp mi (own.map (·.2)) mg mt me)))) :=
  pst_imp (ps_setLc hc hN hy hyl hsw hi ok hg ht he hs) fun B σ H ⟨G, g, δ, re, po⟩ => lc_read hgv (hmc _ _ _ _ (tOfC.stepS re po fun v c g1 H1 δ1 e1 re1 r1 po1 => PostS.of po1 (re1.set r1)))
/-- .. as data, as one of the store's -/
theorem frO {m : M (List Cl)} {σ : L2.St} {H : Hp} {Q : VK} (h : tOf X.K E (mFr m) σ H Q) : tOfO X.K E m σ H Q := by
  obtain ⟨G, g, δ, re, po⟩ := h
  refine tOfO.step re po fun a xs g1 H1 δ1 e1 re1 f1 po1 => ?_
  obtain ⟨d, hd, po2⟩ := Post.opt po1
  obtain ⟨ds, h1, h2⟩ := Option.map_eq_some_iff.mp hd
  subst h2
  obtain ⟨g2, k1, _, k2, k3⟩ := re1.freeze f1 h1
  exact po2 g2 H1 k1 k2 _ k3
theorem shO {m : M D} {σ : L2.St} {H : Hp} {Q : VK} (h : tOfC X.K E (mSh m) σ H Q) : tOf X.K E m σ H Q := by
  obtain ⟨G, g, δ, re, po⟩ := h
  exact tOf.step re po fun v d g1 H1 δ1 e1 re1 r1 po1 => Post.of po1 re1 v (.sh r1)
theorem loO {m : M Nat} {σ : L2.St} {H : Hp} {Q : VK} (h : tOfC X.K E (mLo m) σ H Q) : tOfL X.K E m σ H Q := by
  obtain ⟨G, g, δ, re, po⟩ := h
  exact tOfL.step re po fun a l g1 H1 δ1 e1 re1 r1 po1 => Post.of po1 re1 _ (.lo r1)
theorem newO {m : M (List Cl)} {σ : L2.St} {H : Hp} {Q : VK} (h : tOfL X.K E (mNew m) σ H Q) : tOfO X.K E m σ H Q := by
  obtain ⟨G, g, δ, re, po⟩ := h
  refine tOfO.step re po fun a xs g1 H1 δ1 e1 re1 f1 po1 => ?_
  obtain ⟨g2, k1, k2⟩ := allS re1 f1.fro po1
  exact k1 a k2
theorem mc_fr (m : M (List Cl)) (σ : L2.St) (H : Hp) (Q : VK) (h : tOfC X.K E (mSh (mFr m)) σ H Q) : tOfO X.K E m σ H Q := frO (shO h)
theorem mc_new (m : M (List Cl)) (σ : L2.St) (H : Hp) (Q : VK) (h : tOfC X.K E (mLo (mNew m)) σ H Q) : tOfO X.K E m σ H Q := newO (loO h)
end
inductive RF where
  | ok (c : Cl) (s : List Ob)
  | exc (y : Exn) (s : List Ob)
  | bad
abbrev Fn := List Cl → List Ob → RF
mutual
def Cl.under (n : Nat) : Cl → Bool
  | .lo l => decide (l < n)
  | .tp cs => Cl.unders n cs
  | .no => true
  | .sh _ => true
def Cl.unders (n : Nat) : List Cl → Bool
  | [] => true
  | c :: cs => Cl.under n c && Cl.unders n cs
end
def Ob.below (n : Nat) : Ob → Bool
  | .gone => true
  | .lst xs => xs.all (Cl.under n)
  | .dk kvs => kvs.all fun p => p.2.under n
  | .dt kvs => kvs.all fun p => p.2.under n
  | .ft kvs => kvs.all fun p => p.2.under n
  | .fk kvs => kvs.all fun p => p.2.under n
  | .ins _ fs => fs.all fun p => p.2.under n
/-- what a def has made for itself is forgotten behind it, where nothing reaches it -/
def trim (n : Nat) (c : Cl) (s : List Ob) : List Ob := if (c.under n && (s.take n).all (Ob.below n)) = true then s.take n else s
def fnF (n N : Nat) (mb : M Fl) : Fn := fun as s => if as.length = n then match mb ⟨as ++ List.replicate (N - n) .no, s⟩ with
  | .ok (.rt c) δ' => .ok c (trim s.length c δ'.s)
  | .ok .nx δ' => .ok (.sh .none) (trim s.length (.sh .none) δ'.s)
  | .exc x δ' => .exc x δ'.s
  | _ => .bad
  else .bad
def spF (K : Frag) (n : Nat) (F : Fn) : Sp := fun vs H Q E => vs.length = n ∧ ∃ (G : Hp) (g : Gh) (as : List Cl) (s : List Ob), RE K G g H [] ⟨[], s⟩ ∧ All2 (CR K g) vs as ∧
  match F as s with
  | .ok c s' => ∀ g' H', Le g g' → RE K G g' H' [] ⟨[], s'⟩ → ∀ v, CR K g' v c → Q v H'
  | .exc x s' => False
  | .bad => False
section
variable {K : Frag} {G : Hp} {g g' : Gh} {H H' : Hp} {σ : L2.St} {δ δ' : Sx}
mutual
theorem CR.cut {n : Nat} : ∀ {v : V} {c : Cl}, CR K g v c → c.under n = true → CR K ⟨g.r.take n, g.h⟩ v c
  | _, _, .sh h, _ => .sh h
  | _, _, .lo (l := l) h, hb => .lo (by
    have hb : decide (l < n) = true := by unfold Cl.under at hb; exact hb
    have : l < n := of_decide_eq_true hb
    show (g.r.take n)[_]? = _
    rw [List.getElem?_take_of_lt this]
    exact h)
  | _, _, .tp h t, hb => .tp h (CRt.cut t (by unfold Cl.under at hb; exact hb))
theorem CRt.cut {n : Nat} : ∀ {vs : List V} {cs : List Cl}, CRt K g vs cs → Cl.unders n cs = true → CRt K ⟨g.r.take n, g.h⟩ vs cs
  | _, _, .nil, _ => .nil
  | _, _, .cons h t, hb => by
    unfold Cl.unders at hb
    rw [Bool.and_eq_true] at hb
    exact .cons (CR.cut h hb.1) (CRt.cut t hb.2)
end
theorem ObR.cut {n : Nat} {o : Ob} {u : HO} (h : ObR K g o u) (hb : o.below n = true) : ObR K ⟨g.r.take n, g.h⟩ o u := by
  have f : ∀ {κ : Type} {vs : List (κ × V)} {xs : List (κ × Cl)}, All2 (fun p q => p.1 = q.1 ∧ CR K g p.2 q.2) vs xs → (xs.all fun p => p.2.under n) = true → All2 (fun p q => p.1 = q.1 ∧ CR K ⟨g.r.take n, g.h⟩ p.2 q.2) vs xs := fun {κ vs xs} t hb =>
    t.imp_mem fun a b m r => ⟨r.1, r.2.cut (List.all_eq_true.mp hb b m)⟩
  cases h with
  | lst t => exact .lst (t.imp_mem fun a b m r => r.cut (List.all_eq_true.mp hb b m))
  | dk t => exact .dk (f t hb)
  | dt t => exact .dt (f t hb)
  | ins c t => exact .ins c (f t hb)
theorem RE.trim {c : Cl} {v : V} {n : Nat} (r : RE K G g H [] ⟨[], δ.s⟩) (hn : n ≤ δ.s.length) (hc : CR K g v c) : ∃ g', g'.h = g.h ∧ (∀ l a, l < n → g.r[l]? = some a → g'.r[l]? = some a) ∧ RE K G g' H [] ⟨[], Ds.trim n c δ.s⟩ ∧ CR K g' v c := by
  unfold Ds.trim
  split
  · rename_i hb
    rw [Bool.and_eq_true] at hb
    obtain ⟨h1, h2⟩ := hb
    refine ⟨⟨g.r.take n, g.h⟩, rfl, fun l a hl h => ?_, ?_, hc.cut h1⟩
    · show (g.r.take n)[l]? = some a
      rw [List.getElem?_take_of_lt hl]
      exact h
    · exact {
        ex := r.ex
        fg := fun a o q => by
          obtain ⟨a1, a2, a3⟩ := r.fg a o q
          exact ⟨a1, a2, fun z => a3 (List.mem_of_mem_take z)⟩
        len := rfl
        rl := by
          have : g.r.length = δ.s.length := r.rl
          simp [this]
        sl := fun i c q => by simp at q
        ob := fun l o q hl => by
          have q : (δ.s.take n)[l]? = some o := q
          have hln : l < n := by
            have := (List.getElem?_eq_some_iff.mp q).1
            simp at this
            omega
          rw [List.getElem?_take_of_lt hln] at q
          obtain ⟨a, u, b1, b2, b3, b4⟩ := r.ob l o q hl
          refine ⟨a, u, ?_, b2, b3.cut ?_, b4⟩
          · show (g.r.take n)[l]? = some a
            rw [List.getElem?_take_of_lt hln]
            exact b1
          · refine List.all_eq_true.mp h2 o ?_
            refine List.mem_of_getElem? (i := l) ?_
            rw [List.getElem?_take_of_lt hln]
            exact q
        nd := (List.take_sublist n g.r).nodup r.nd
        al := fun a ha => r.al a (List.mem_of_mem_take ha)
        nt := fun a ys q => ⟨fun z => (r.nt a ys q).1 (List.mem_of_mem_take z), (r.nt a ys q).2⟩
        gx := r.gx
        fz := fun l o1 q hz => by
          have q : (δ.s.take n)[l]? = some o1 := q
          have hln : l < n := by
            have := (List.getElem?_eq_some_iff.mp q).1
            simp at this
            omega
          have hm : Ob.below n o1 = true := List.all_eq_true.mp h2 _ (List.mem_of_getElem? q)
          rw [List.getElem?_take_of_lt hln] at q
          obtain ⟨a, o, vs, b1, b2, b3⟩ := r.fz l o1 q hz
          refine ⟨a, o, vs, ?_, b2, match o1, b3, hm with
            | _, .ft b3, hm => .ft (b3.imp_mem fun a b m z => ⟨z.1, z.2.cut (List.all_eq_true.mp hm b m)⟩)
            | _, .fk b3, hm => .fk (b3.imp_mem fun a b m z => ⟨z.1, z.2.cut (List.all_eq_true.mp hm b m)⟩)⟩
          show (g.r.take n)[l]? = some a
          rw [List.getElem?_take_of_lt hln]
          exact b1 }
  · exact ⟨g, rfl, fun l a _ h => h, r, hc⟩
theorem RE.start {vs : List V} {as : List Cl} {s : List Ob} (r : RE K G g H [] ⟨[], s⟩) (t : All2 (CR K g) vs as) (k : Nat) : RE K G g H (vs.map some ++ List.replicate k none) ⟨as ++ List.replicate k .no, s⟩ :=
  r.slots (by simp [t.length]) fun i c q hc => by
    by_cases hi : i < as.length
    · rw [List.getElem?_append_left hi] at q
      obtain ⟨v, h1, h2⟩ := t.get q
      have hiv : i < (vs.map some).length := by rw [List.length_map, t.length]; exact hi
      exact ⟨v, by rw [List.getElem?_append_left hiv, List.getElem?_map, h1]; rfl, h2⟩
    · rw [List.getElem?_append_right (by omega), List.getElem?_replicate] at q
      split at q
      · cases q; exact absurd rfl hc
      · cases q
end
theorem trim_le {n : Nat} {c : Cl} {s : List Ob} (h : n ≤ s.length) : n ≤ (trim n c s).length := by
  unfold trim
  split
  · rw [List.length_take]; omega
  · exact h
section
variable {P : Program} {w : World} {K : Frag} {mg : Str → Option Value} {base : Heap}
/-- a def keeps its promise: by its body as a run upon data -/
theorem fn_J {x qual : Str} {st : Stmt} {f : Addr} {fd : FuncData} {N pr : List Str} {k n nN : Nat} {mb : M Fl} (F : Fun K x qual st f fd) (S : FnScope N pr (defScope st)) (hn : pr.length = n) (hN : N.length = nN) (hle : n ≤ nN)
    (hbody : ∀ (cdv : Value) (A : Around) (outer : List PySem.Env) (s : Shared) (H : Hp) (E : XK), Room k (A.deeper (envOfC qual (defScope st) s.heap.objs.size f cdv)) →
      PSs (cxOf CX0 P w K mg base N qual (defScope st) f cdv A outer s H E).nox (defBody st) (tOfS K noX mb)) : FnOk P w K mg base CX0 (k + 1) f fd pr (spF K n (fnF n nN mb)) := by
  refine F.ok S (fun vs H Q E h => by rw [h.1, hn]) fun cdv A outer s H vs Q E hr h => ⟨_, hbody cdv A outer s H E hr, ?_⟩
  obtain ⟨hl, G, g, as, st0, re, t, po⟩ := h
  have hst : L2.start N vs = vs.map some ++ List.replicate (nN - n) none := by unfold L2.start; rw [hN, hl]
  refine ⟨G, g, ⟨as ++ List.replicate (nN - n) .no, st0⟩, by rw [hst]; exact re.start t _, ?_⟩
  have hal : as.length = n := by rw [← t.length, hl]
  unfold fnF at po
  rw [if_pos hal] at po
  have grl : g.r.length = st0.length := re.rl
  have fin : ∀ {c : Cl} {δ' : Sx} {σ' : L2.St} {g' : Gh} {H' : Hp} {v : V}, (∀ g' H', Le g g' → RE K G g' H' [] ⟨[], trim st0.length c δ'.s⟩ → ∀ v, CR K g' v c → Q v H') → Le g g' → RE K G g' H' σ' δ' → CR K g' v c → Q v H' := fun {c δ' σ' g' H' v} k e r hc => by
    have hn' : st0.length ≤ δ'.s.length := by
      rw [← r.rl, ← grl]
      by_cases h0 : g.r.length = 0
      · omega
      · have := (List.getElem?_eq_some_iff.mp (e.r (g.r.length - 1) _ (List.getElem?_eq_getElem (by omega)))).1
        omega
    obtain ⟨g2, a1, a2, a3, a4⟩ := RE.trim (δ := δ') (n := st0.length) r.bare hn' hc
    refine k g2 H' ⟨fun l a h => a2 l a ?_ (e.r l a h), by rw [a1]; exact e.h⟩ a3 v a4
    have := (List.getElem?_eq_some_iff.mp h).1
    omega
  cases q : mb ⟨as ++ List.replicate (nN - n) .no, st0⟩ with
  | ok fl δ' =>
    rw [q] at po
    cases fl with
    | nx => exact fun σ' g' H' e r => fin po e r (.sh .non)
    | rt c => exact fun σ' g' H' e r v rv => fin po e r rv
    | bk => exact po.elim
    | ct => exact po.elim
  | exc x δ' => rw [q] at po; exact po.elim
  | bad => rw [q] at po; exact po.elim
end
def mCall (F : Fn) (as : List (M Cl)) : M Cl := mBind (evA as) fun cs δ => match F cs δ.s with
  | .ok c s' => .ok c ⟨δ.e, s'⟩
  | .exc x s' => .bad
  | .bad => .bad
section
variable {X : Cx} {E : XQ} {E0 : XK} {F : Fn} {as : List (M Cl)} {k n : Nat} {f : Addr} {fd : FuncData} {pr : List Str} {x : Str} {e : Expr} {es : List Expr} {p pos : Pos}
theorem call_read (hn : as.length = n) {σ : L2.St} {H : Hp} {Q : VK} (h : tOfC X.K E (mCall F as) σ H Q) : tCall (spF X.K n F) [] E0 (tOfA X.K E (evA as)) σ H Q := by
  obtain ⟨G, g, δ, re, po⟩ := h
  have hlen : ∀ (as : List (M Cl)) (δ : Sx) (cs : List Cl) (δ' : Sx), evA as δ = .ok cs δ' → cs.length = as.length := fun as => by
    induction as with
    | nil => intro δ cs δ' h; cases h; rfl
    | cons m as ih =>
      intro δ cs δ' h
      unfold evA mBind at h
      cases q : m δ with
      | ok c δ1 =>
        rw [q] at h
        dsimp only at h
        cases q2 : evA as δ1 with
        | ok cs2 δ2 =>
          rw [q2] at h
          have h : Res.ok (c :: cs2) δ2 = Res.ok cs δ' := h
          injection h with h1 h2
          subst h1
          rw [List.length_cons, List.length_cons, ih _ _ _ q2]
        | exc y δ2 => rw [q2] at h; cases h
        | bad => rw [q2] at h; cases h
      | exc y δ1 => rw [q] at h; cases h
      | bad => rw [q] at h; cases h
  unfold mCall at po
  have po' := po
  unfold mBind at po'
  cases qa : evA as δ with
  | ok cs0 δ0 =>
    have hl := hlen _ _ _ _ qa
    rw [qa] at po'
    refine ⟨G, g, δ, re, ?_⟩
    rw [qa]
    intro g1 H1 e1 re1 vs r1
    have po1 := Post.ex po' e1
    rw [List.append_nil]
    dsimp only at po1
    refine ⟨by rw [r1.length, hl, hn], G, g1, cs0, δ0.s, re1.bare, r1, ?_⟩
    cases q : F cs0 δ0.s with
    | ok c s' =>
      rw [q] at po1
      exact fun g' H' e r v rv => po1 g' H' e (re1.lift e r) v rv
    | exc y s' => rw [q] at po1; exact po1.elim
    | bad => rw [q] at po1; exact po1.elim
  | exc y δ0 =>
    rw [qa] at po'
    refine ⟨G, g, δ, re, ?_⟩
    rw [qa]
    exact po'
  | bad => rw [qa] at po'; exact po'.elim
theorem jc_call (G : FnOk X.prog X.w X.K X.mg X.base CX0 k f fd pr (spF X.K n F)) (hn : as.length = n) (hr : Room k X.A) (hg : Gl X x) (hm : X.mg x = some (.ref f)) (hk : PySem.W.keepIn X.K (.ref f) = true) (hb : Binds X.K fd pr []) (ha : PA X (e :: es) (tOfA X.K E (evA as)))
    (hdb : (x == ("__debug__" : Str)) = false := by decide) (he : starEach (e :: es) X.env = (false, eval e X.env) :: starEach es X.env := by rfl) (hpl : (backTo pos (starEach es X.env)).any (·.1) = false := by rfl) : PE X (.Call (.Name x p) (e :: es) [] pos) (tOfC X.K E (mCall F as)) :=
  pe_imp (pe_call G hr hg hm hk hb .nil pass0 ha hdb he hpl) fun _ _ _ h => call_read hn h
theorem nil_read {K : Frag} {σ : L2.St} {H : Hp} {R : List V → Hp → Prop} (h : tOfA K E (evA []) σ H R) : R [] H := by
  obtain ⟨G, g, δ, re, po⟩ := h
  exact Post.of po re [] .nil
/-- a def that calls itself: none of its turns is left -/
theorem fn_bad {P : Program} {w : World} {K : Frag} {mg : Str → Option Value} {base : Heap} {k n : Nat} {f : Addr} {fd : FuncData} {pr : List Str} (hn : pr.length = n) : FnOk P w K mg base CX0 k f fd pr (spF K n fun _ _ => .bad) :=
  ⟨fun vs H Q E h => by rw [h.1, hn], fun A outer s H args us vs Q E _ _ _ _ h => by
    obtain ⟨_, _, _, _, _, _, _, h⟩ := h
    exact h.elim⟩
end
end Ds
namespace Ds
open PySem PySem.Spec PyProof.Rows L2 Dn
section
variable {κ : Type} [DecidableEq κ]
def valC (kvs : List (κ × Cl)) (k : κ) : Option Cl := (kvs.find? fun kv => decide (kv.1 = k)).map (·.2)
def putC (kvs : List (κ × Cl)) (k : κ) (c : Cl) : List (κ × Cl) := if (kvs.any fun kv => decide (kv.1 = k)) = true then kvs.map (fun kv => if kv.1 = k then (kv.1, c) else kv) else kvs ++ [(k, c)]
def dropC (kvs : List (κ × Cl)) (k : κ) : List (κ × Cl) := kvs.filter fun kv => decide (kv.1 ≠ k)
def mergeC (kvs more : List (κ × Cl)) : List (κ × Cl) := more.foldl (fun acc kv => putC acc kv.1 kv.2) kvs
abbrev KR (K : Frag) (g : Gh) : List (κ × V) → List (κ × Cl) → Prop := All2 fun p q => p.1 = q.1 ∧ CR K g p.2 q.2
variable {K : Frag} {g : Gh}
theorem KR.val {vs : List (κ × V)} {cs : List (κ × Cl)} (r : KR K g vs cs) (k : κ) : (valC cs k = none ∧ valV vs k = none) ∨ ∃ v c, valC cs k = some c ∧ valV vs k = some v ∧ CR K g v c := by
  induction r with
  | nil => exact .inl ⟨rfl, rfl⟩
  | @cons p q ps qs h t ih =>
    by_cases e : q.1 = k
    · refine .inr ⟨p.2, q.2, ?_, ?_, h.2⟩
      · simp [valC, List.find?_cons, e]
      · exact valV_pos (h.1.trans e)
    · have e1 : valC (q :: qs) k = valC qs k := by simp [valC, List.find?_cons, e]
      have e2 : valV (p :: ps) k = valV ps k := valV_neg (by rw [h.1]; exact e)
      rw [e1, e2]
      exact ih
theorem KR.some {vs : List (κ × V)} {cs : List (κ × Cl)} (r : KR K g vs cs) {k : κ} {c : Cl} (h : valC cs k = some c) : ∃ v, valV vs k = some v ∧ CR K g v c := by
  rcases r.val k with ⟨a, _⟩ | ⟨v, c', a, b, d⟩
  · rw [a] at h; cases h
  · rw [a] at h; cases h; exact ⟨v, b, d⟩
theorem KR.isSome {vs : List (κ × V)} {cs : List (κ × Cl)} (r : KR K g vs cs) (k : κ) : (valV vs k).isSome = (valC cs k).isSome := by
  rcases r.val k with ⟨a, b⟩ | ⟨v, c', a, b, d⟩ <;> rw [a, b] <;> rfl
theorem KR.any {vs : List (κ × V)} {cs : List (κ × Cl)} (r : KR K g vs cs) (k : κ) : (vs.any fun kv => decide (kv.1 = k)) = cs.any fun kv => decide (kv.1 = k) := by
  induction r with
  | nil => rfl
  | @cons p q ps qs h t ih => rw [List.any_cons, List.any_cons, ih, h.1]
theorem KR.put {vs : List (κ × V)} {cs : List (κ × Cl)} (r : KR K g vs cs) (k : κ) {v : V} {c : Cl} (h : CR K g v c) : KR K g (putK vs k v) (putC cs k c) := by
  unfold putK putC
  rw [r.any k]
  have z : KR K g (vs.map fun kv => if kv.1 = k then (kv.1, v) else kv) (cs.map fun kv => if kv.1 = k then (kv.1, c) else kv) := by
    induction r with
    | nil => exact .nil
    | @cons p q ps qs h' t ih =>
      rw [List.map_cons, List.map_cons]
      refine .cons ?_ ih
      by_cases e : q.1 = k
      · rw [if_pos e, if_pos (h'.1.trans e)]; exact ⟨h'.1, h⟩
      · rw [if_neg e, if_neg (by rw [h'.1]; exact e)]; exact h'
  split
  · exact z
  · exact All2.snoc r ⟨rfl, h⟩
theorem KR.drop {vs : List (κ × V)} {cs : List (κ × Cl)} (r : KR K g vs cs) (k : κ) : KR K g (dropK vs k) (dropC cs k) := by
  unfold dropK dropC
  induction r with
  | nil => exact .nil
  | @cons p q ps qs h t ih =>
    rw [List.filter_cons, List.filter_cons]
    by_cases e : q.1 = k
    · rw [if_neg (by simp [h.1.trans e]), if_neg (by simp [e])]; exact ih
    · rw [if_pos (by simpa [h.1] using e), if_pos (by simpa using e)]; exact .cons h ih
end
theorem KR.merge {K : Frag} {g : Gh} {ms : List (Key × V)} {ns : List (Key × Cl)} (h : KR K g ms ns) : ∀ {vs : List (Key × V)} {cs : List (Key × Cl)}, KR K g vs cs → KR K g (mergeK vs ms) (mergeC cs ns) := by
  induction h with
  | nil => exact fun r => r
  | @cons p q ps qs h t ih =>
    intro vs cs r
    have z := r.put q.1 h.2
    have e : putK vs p.1 p.2 = putK vs q.1 p.2 := by rw [h.1]
    show KR K g (mergeK (putK vs p.1 p.2) ps) (mergeC (putC cs q.1 q.2) qs)
    rw [e]
    exact ih z
def toK : D → Option Key
  | .int i => some (.inl i)
  | .str x => some (.inr x)
  | _ => none
theorem toK_v {K : Frag} {H : Hp} {v : V} {d : D} {k : Key} (r : Rp K H v d) (h : toK d = some k) : v = kV k := by
  cases r <;> simp [toK] at h <;> subst h <;> rfl
theorem RE.dkAt {K : Frag} {G : Hp} {g : Gh} {H : Hp} {σ : L2.St} {δ : Sx} (r : RE K G g H σ δ) {l : Nat} {a : Addr} {xs : List (Key × Cl)} (h : g.r[l]? = some a) (hx : δ.s[l]? = some (.dk xs)) : ∃ vs, H a = some (.dK vs) ∧ KR K g vs xs := by
  obtain ⟨b, u, h1, h2, h3, h4⟩ := r.ob l _ hx rfl
  rw [h] at h1
  cases h1
  cases h3 with
  | dk h3 => exact ⟨_, h2, h3⟩
section
variable {X : Cx} {E : XQ} {a b e o f : Expr} {pos : Pos} {m mk mx : M D} {mc : M Cl} {ml : M Nat} {m1 m2 : M Fl}
/-- d[k] -/
def mDGet (ml : M Nat) (mk : M D) : M Cl := mBind ml fun l => mBind mk fun e δ => match δ.s[l]?, toK e with
  | some (.dk kvs), some k => match valC kvs k with
    | some c => .ok c δ
    | none => .bad
  | _, _ => .bad
def isDk (l : Nat) : M Nat := fun δ => match δ.s[l]? with
  | some (.dk _) => .ok l δ
  | _ => .bad
theorem isDk_ok (l : Nat) (δ : Sx) : isDk l δ = .bad ∨ ∃ xs, δ.s[l]? = some (.dk xs) ∧ isDk l δ = .ok l δ := by
  unfold isDk
  split
  · rename_i xs h
    exact .inr ⟨xs, h, rfl⟩
  · exact .inl rfl
theorem isDk_po {K : Frag} {G : Hp} {g : Gh} {σ : L2.St} {δ : Sx} {l : Nat} {β : Type} {f : Nat → M β} {QQ : β → Gh → Hp → Sx → Prop} (po : Post K E G g σ (mBind (isDk l) f δ) QQ) : ∃ xs, δ.s[l]? = some (.dk xs) ∧ Post K E G g σ (f l δ) QQ := by
  unfold mBind at po
  rcases isDk_ok l δ with h | ⟨xs, hx, h⟩
  · rw [h] at po; exact po.elim
  · rw [h] at po; exact ⟨xs, hx, po⟩
theorem isDk_poF {K : Frag} {G : Hp} {g : Gh} {δ : Sx} {l : Nat} {B : Ends} {f : Nat → M Fl} (po : PostF K E G g (mBind (isDk l) f δ) B) : ∃ xs, δ.s[l]? = some (.dk xs) ∧ PostF K E G g (f l δ) B := by
  unfold mBind at po
  rcases isDk_ok l δ with h | ⟨xs, hx, h⟩
  · rw [h] at po; exact po.elim
  · rw [h] at po; exact ⟨xs, hx, po⟩
def mDGet2 (ml : M Nat) (mk : M D) (mc : M Cl) : M Cl := mBind ml fun l => mBind (isDk l) fun l => mBind mk fun e => mBind mc fun z δ => match δ.s[l]?, toK e with
  | some (.dk kvs), some k => .ok ((valC kvs k).getD z) δ
  | _, _ => .bad
theorem jc_dget2 {apos cpos : Pos} (hu : X.A.units + 64 < cLine) (ho : PE X o (tOfL X.K E ml)) (he : PE X e (tOf X.K E mk)) (hf : PE X f (tOfC X.K E mc)) (m : M2 X o "get" apos e f cpos) : PE X (.Call (.Attribute o "get" apos) [e, f] [] cpos) (tOfC X.K E (mDGet2 ml mk mc)) :=
  pe_imp (pe_dget2 (by omega) ho he hf m) fun σ H Q ⟨G, g, δ, re, po⟩ => tOfL.step re po fun q l g1 H1 δ1 e1 re1 r1 po1 => by
    obtain ⟨xs0, hx0, po1⟩ := isDk_po po1
    obtain ⟨vs0, k1, k2⟩ := re1.dkAt r1 hx0
    refine ⟨q, rfl, .inl ⟨vs0, .inl k1⟩, tOf.step re1 po1 fun y d g2 H2 δ2 e2 re2 r2 po2 => tOfC.step re2 po2 fun w z g3 H3 δ3 e3 re3 r3 po3 => ?_⟩
    split at po3
    · rename_i kvs k hx hk
      obtain ⟨vs, h1, h2⟩ := re3.dkAt (e3.r _ _ (e2.r _ _ r1)) hx
      refine ⟨valV vs k, ?_, ?_⟩
      · rw [toK_v r2 hk]
        exact DGet.k h1
      · rcases h2.val k with ⟨a1, a2⟩ | ⟨v, c, a1, a2, a3⟩
        · rw [a1] at po3; rw [a2]; exact Post.of po3 re3 w r3
        · rw [a1] at po3; rw [a2]; exact Post.of po3 re3 v a3
    · exact po3.elim
/-- d[k] = x -/
def mDPut (ml : M Nat) (mk : M D) (mc : M Cl) : M Fl := mBind mc fun c => mBind ml fun l => mBind mk fun e δ => match δ.s[l]?, toK e with
  | some (.dk kvs), some k => if kvs.length < sizeLine then .ok .nx ⟨δ.e, δ.s.set l (.dk (putC kvs k c))⟩ else .bad
  | _, _ => .bad
theorem js_dput {pos' : Pos} {v : Expr} (hu : X.A.units + 64 < cLine) (ho : PE X o (tOfL X.K E ml)) (hi : PE X e (tOf X.K E mk)) (hv : PE X v (tOfC X.K E mc)) (hs : swapsWith v (some (.Subscript o e pos')) pos.line X.env = pure false := by rfl) : PS X (.Assign [.Subscript o e pos'] v pos) (tOfS X.K E (mDPut ml mk mc)) :=
  pst_imp (ps_dput (by omega) ho hi hv hs) fun B σ H ⟨G, g, δ, re, po⟩ => tOfC.stepS re po fun w c g1 H1 δ1 e1 re1 r1 po1 => tOfL.stepS re1 po1 fun q l g2 H2 δ2 e2 re2 r2 po2 => tOf.stepS re2 po2 fun y d g3 H3 δ3 e3 re3 r3 po3 => by
    split at po3
    · rename_i kvs k hx hk
      split at po3
      · rename_i hl
        have ha := e3.r _ _ r2
        obtain ⟨vs, h1, h2⟩ := re3.dkAt ha hx
        refine ⟨q, _, rfl, ?_, PostS.of po3 (re3.write hx rfl ha (.dk (h2.put k ((r1.le e2).le e3))))⟩
        rw [toK_v r3 hk]
        exact DPut.k h1 (by rw [h2.length]; exact hl)
      · exact po3.elim
    · exact po3.elim
/-- k in d, k not in d -/
def mDIn (neg : Bool) (mk : M D) (ml : M Nat) : M D := mBind mk fun e => mBind ml fun l δ => match δ.s[l]?, toK e with
  | some (.dk kvs), some k => .ok (.bool (if neg then !(valC kvs k).isSome else (valC kvs k).isSome)) δ
  | _, _ => .bad
/-- {} -/
def mDNew : M Nat := mAll (.dk [])
theorem Fro.new {K : Frag} {G : Hp} {g : Gh} {H : Hp} {σ : L2.St} {δ : Sx} {p : Addr} {o : Ob} {u : HO} (re : RE K G g H σ δ) (hp : H p = none) (h : ObR K g o u) : Fro K G g (upd H p u) p o :=
  ⟨⟨u, upd_same, h⟩, ex_none re.ex hp, (by
    cases q : G p with
    | none => rfl
    | some u => have := (re.fg p u q).1; rw [hp] at this; cases this), re.nin hp⟩
theorem jl_dnew : PE X (.Dict [] [] pos) (tOfL X.K E mDNew) :=
  pe_imp pe_dnewK fun σ H Q ⟨G, g, δ, re, po⟩ p hp => by
    obtain ⟨g2, k1, k2⟩ := allS (re.newH (ex_new hp)) (Fro.new re hp (.dk .nil)) po
    exact k1 p k2
/-- {k: x, ..} -/
def evP : List (M D × M Cl) → M (List (Key × Cl))
  | [] => mPure []
  | (mk, mc) :: r => mBind mk fun e => mBind (mOpt (toK e)) fun k => mBind mc fun c => mBind (evP r) fun ps => mPure ((k, c) :: ps)
def mDisp (ps : List (M D × M Cl)) : M Nat := mBind (evP ps) fun kvs => mBind (mOpt (if kvs.length ≤ 15 then some () else none)) fun _ => mAll (.dk (mergeC [] kvs))
inductive PPJ (X : Cx) (E : XQ) (pos : Pos) : List (Option Expr) → List Expr → List (TE × TE) → List (M D × M Cl) → Prop where
  | nil : PPJ X E pos [] [] [] []
  | cons {k v : Expr} {ks : List (Option Expr)} {vs : List Expr} {trs : List (TE × TE)} {ps : List (M D × M Cl)} {mk : M D} {mc : M Cl} : PE X k (tOf X.K E mk) → PE X v (tOfC X.K E mc) → PPJ X E pos ks vs trs ps → PPJ X E pos (some k :: ks) (v :: vs) ((tOf X.K E mk, tOfC X.K E mc) :: trs) ((mk, mc) :: ps)
theorem PPJ.all {X : Cx} {E : XQ} {pos : Pos} {ks : List (Option Expr)} {vs : List Expr} {trs : List (TE × TE)} {ps : List (M D × M Cl)} (h : PPJ X E pos ks vs trs ps) : ks.all (·.isSome) = true ∧ ks.length = vs.length := by
  induction h with
  | nil => exact ⟨rfl, rfl⟩
  | cons h1 h2 _ ih => exact ⟨by rw [List.all_cons, ih.1]; rfl, by rw [List.length_cons, List.length_cons, ih.2]⟩
/-- d.update(other) -/
def rUpd : V → List V → Hp → VK → Prop := fun x xs H Q => ∃ (a b : Addr) (kvs more : List (Key × V)), x = .ref a ∧ xs = [.ref b] ∧ a ≠ b ∧ H a = some (.dK kvs) ∧ H b = some (.dK more) ∧ kvs.length + more.length ≤ sizeLine ∧ Q .non (upd H a (.dK (mergeK kvs more)))
theorem mt_upd : MtR X "dict.update" rUpd := by
  intro pins s σ H x vs v us Q I rx rv h
  obtain ⟨a, b, kvs, more, ex, ev, hab, e1, e2, hl, q⟩ := h
  subst ex; subst ev
  obtain rfl : v = Value.ref a := rx
  obtain ⟨z1, hd1, ws1, rel1, dd1⟩ := dk_of I.hok e1
  obtain ⟨z2, hd2, ws2, rel2, dd2⟩ := dk_of I.hok e2
  cases rv with
  | cons r0 rt =>
    cases rt
    obtain rfl : _ = Value.ref b := r0
    refine call_meetsIn PySem.F.slot_dict_update dd1.typeIs PySem.F.entry_dict_update (PySem.F.args_dict_update_2 _ _) (meets_dict_update (mixKind X.prog X.w) a b hab hd2)
      ⟨ws1, ws2, dd1, dd2, by rw [← rel1.length, ← rel2.length]; exact hl, fun h' dd' _ hs => ⟨.non, _, ?_, rfl, q⟩⟩
    have he : ∃ q, h'.get? a = some q := let ⟨q, _, _, hq, _⟩ := dd'; ⟨q, hq⟩
    have hz : (mergeK kvs more).length ≤ sizeLine := Nat.le_trans (length_mergeK more kvs) hl
    exact d_write (t' := s.toks) I (by rw [e1]; exact True.intro) hs he (dk_new hz hd1 (rel2.merge rel1) dd')
def mUpd (ml mo : M Nat) : M Fl := mBind ml fun l => mBind (isDk l) fun l => mBind mo fun k δ => match δ.s[l]?, δ.s[k]? with
  | some (.dk kvs), some (.dk more) => if l ≠ k ∧ kvs.length + more.length ≤ sizeLine then .ok .nx ⟨δ.e, δ.s.set l (.dk (mergeC kvs more))⟩ else .bad
  | _, _ => .bad
theorem js_upd {apos cpos : Pos} {v : Expr} {mo : M Nat} (ho : PE X o (tOfL X.K E ml)) (he : PE X v (tOfL X.K E mo))
    {PE0 : PE X (.Call (.Attribute o "update" apos) [v] [] cpos) (tBM X.K "dict" rUpd (tOfL X.K E ml) (tCons (tOfL X.K E mo) tNil))}
    (hs : swapsWith (.Call (.Attribute o "update" apos) [v] [] cpos) none pos.line X.env = pure false := by rfl) : PS X (.Expr (.Call (.Attribute o "update" apos) [v] [] cpos) pos) (tOfS X.K E (mUpd ml mo)) :=
  pst_imp (ps_expr PE0 hs) fun B σ H ⟨G, g, δ, re, po⟩ => by
    show tBM _ _ _ _ _ _ _ _
    unfold tBM
    refine tOfL.stepS re po fun q l g1 H1 δ1 e1 re1 r1 po1 => ?_
    obtain ⟨xs0, hx0, po1⟩ := isDk_poF po1
    obtain ⟨vs0, k1, k2⟩ := re1.dkAt r1 hx0
    refine ⟨.inr (.inr (.inl ⟨rfl, .inl ⟨vs0, k1⟩⟩)), ?_⟩
    refine tOfL.stepS re1 po1 fun p k g2 H2 δ2 e2 re2 r2 po2 => ?_
    split at po2
    · rename_i kvs more hx hy
      split at po2
      · rename_i hl
        have ha := e2.r _ _ r1
        obtain ⟨vs, h1, h2⟩ := re2.dkAt ha hx
        obtain ⟨ws, h3, h4⟩ := re2.dkAt r2 hy
        refine ⟨q, p, vs, ws, rfl, rfl, fun z => hl.1 (nodup_at re2.nd ha (z ▸ r2)), h1, h3, by rw [h2.length, h4.length]; exact hl.2, ?_⟩
        exact PostS.of po2 (re2.write hx rfl ha (.dk (KR.merge h4 h2)))
      · exact po2.elim
    · exact po2.elim
end
end Ds
namespace Ds
open PySem PySem.Spec PyProof.Rows L2 PySem.Froz
section
variable {P : Program} {w : World} {A : Around} {E : Value → Shared → Prop} {s : Shared} {a : Addr} {l : List Str}
def TxSet (P : Program) (w : World) (h : Heap) (a : Addr) (l : List Str) : Prop :=
  ∃ D : SD, h.get? a = some (sObj "set" D) ∧ TxOk P w D l ∧ Ris D.2.2.place.toList ∧ (w.params.followText "set-order" = true ∨ D.2.2.led = true) ∧ l.Nodup ∧ l.length < scanBound
theorem TxSet.at_ {h h' : Heap} (R : TxSet P w h a l) (k : ∀ o, h.get? a = some o → h'.get? a = some o) : TxSet P w h' a l := by
  obtain ⟨D, ho, r⟩ := R
  exact ⟨D, k _ ho, r⟩
def setNo (w : World) : Obj := { cls := .type "set", dict := none, data := .set #[] 0 (.fresh 0 0 (!w.params.followText "set-order")) }
theorem TxSet.none {h : Heap} (ho : h.get? a = some (setNo w)) : TxSet P w h a [] :=
  ⟨(#[], 0, .fresh 0 0 (!w.params.followText "set-order")), ho, TxOk.nil rfl, List.Pairwise.nil, by
    show _ ∨ (!w.params.followText "set-order") = true
    cases w.params.followText "set-order"
    · exact .inr rfl
    · exact .inl rfl, List.nodup_nil, by decide⟩
theorem tail_ris {ep : Nat} {es1 : Array (Int × Value)} {t2 : SetTable} {b : Bool} (r : Ris t2.place.toList) : Ris (tailTx ep es1 t2 b).2.2.place.toList ∧ (tailTx ep es1 t2 b).2.2.led = t2.led := by
  unfold tailTx
  split
  · exact ⟨relayAll_ris _ _ _, relayAll_led _ _ _⟩
  · exact ⟨r, rfl⟩
theorem add_ris {D : SD} {h : Int} {v : Value} (r : Ris D.2.2.place.toList) : Ris (addTx h v D).2.2.place.toList ∧ (addTx h v D).2.2.led = D.2.2.led := by
  unfold addTx
  have r1 := layNew_ris D.2.2 D.1 h v r
  have l1 := layNew_led D.2.2 D.1 h v
  split
  · obtain ⟨a1, a2⟩ := tail_ris (ep := D.2.1) (es1 := (layNew D.2.2 D.1 h v).1) (b := (layNew D.2.2 D.1 h v).2.2.1) (t2 := { (layNew D.2.2 D.1 h v).2.1 with plain := false }) r1
    exact ⟨a1, a2.trans l1⟩
  · obtain ⟨a1, a2⟩ := tail_ris (ep := D.2.1) (es1 := (layNew D.2.2 D.1 h v).1) (b := (layNew D.2.2 D.1 h v).2.2.1) r1
    exact ⟨a1, a2.trans l1⟩
def addT (l : List Str) (k : Str) : List Str := if k ∈ l then l else k :: l
theorem TxSet.add {k : Str} {u : Tok} {Q : Bool → Shared → Prop} (R : TxSet P w s.heap a l) (hb : l.length + 1 < scanBound)
    (hQ : ∀ (h' : Heap) (b : Bool), Heap.SameBut a s.heap h' → TxSet P w h' a (addT l k) → Q b { s with heap := h' }) : wpAny (model P w) A (setAddHashed a (.str k u) (hashStr w k)) Q E s := by
  obtain ⟨D, ho, F, r, hl, nd, hlen⟩ := R
  by_cases hk : k ∈ l
  · obtain ⟨es, ep, t⟩ := D
    have hkey : (strKind P w).is k (.str k u) = true := is_str k u
    have hel : ElemsOf (strKind P w) es.toList := F.el
    have hsz : es.size = l.length := F.sz
    unfold setAddHashed setAddHashedIn
    refine wpAny_holding (wpAny_bind (wpAny_setState_of ho rfl F.fit ?_))
    dsimp only
    rw [byScan_of rfl (by omega) hel]
    simp only [↓reduceIte]
    unfold setAddByScan
    refine wpAny_bind ?_
    refine wpAny_bind (wpAny_rule ?_)
    refine wpAny_bind (wpAny_setScan_of hkey ho rfl F.fit hel ?_)
    cases hfi : List.findIdx? (fun e => (strKind P w).is k e.2) es.toList with
    | some j =>
      dsimp only
      refine wpAny_pure (wpAny_pure ?_)
      refine hQ s.heap false (Heap.SameBut.refl a s.heap) ?_
      unfold addT
      rw [if_pos hk]
      exact ⟨(es, ep, t), ho, F, r, hl, nd, hlen⟩
    | none =>
      obtain ⟨e, he, q⟩ := (F.mem k).mp hk
      have c := List.findIdx?_eq_none_iff.mp hfi e he
      rw [q] at c
      cases c
  · refine add_x ho F hk hb ?_
    have hlt : a < s.heap.objs.size := Heap.lt_size ho
    refine hQ _ true ?_ ?_
    · exact Heap.SameBut.update _ _ _
    · unfold addT
      rw [if_neg hk]
      obtain ⟨r1, r2⟩ := add_ris (h := hashStr w k) (v := .str k u) r
      exact ⟨_, get_upd _ ho rfl, add_ok u F, r1, hl.imp id fun z => r2.trans z, List.nodup_cons.mpr ⟨hk, nd⟩, hb⟩
def metT (xs : List Str) : List Str := xs.foldl addT []
theorem metT_take {xs : List Str} {i : Nat} {x : Str} (h : xs[i]? = some x) : metT (xs.take (i + 1)) = addT (metT (xs.take i)) x := by
  unfold metT
  rw [List.take_add_one, h, List.foldl_append]
  rfl
theorem addT_len (l : List Str) (x : Str) : (addT l x).length ≤ l.length + 1 := by
  unfold addT
  split
  · omega
  · simp
theorem metT_len (xs : List Str) : (metT xs).length ≤ xs.length := by
  have h : ∀ (xs l : List Str), (xs.foldl addT l).length ≤ l.length + xs.length := fun xs => by
    induction xs with
    | nil => intro l; simp
    | cons x r ih =>
      intro l
      have h1 := ih (addT l x)
      have h2 := addT_len l x
      rw [List.foldl_cons, List.length_cons]
      omega
  have := h xs []
  simpa [metT] using this
theorem texts_in {C : Addr} {fp wr : List Addr} {G : Array GenState → Array GenState → Prop} {n : Nat} {Pv : Nat → Value → Prop} {St : Nat → Shared → Prop} {R : Result → Shared → Prop} {I : Addr}
    (W : WalksS P w A.in1 I fp wr G n Pv St) (hC : C ∉ fp) (xs : List Str) (hn : n = xs.length) (hb : xs.length + 1 < scanBound) (hv : ∀ i v, Pv i v → ∃ k t, xs[i]? = some k ∧ v = .str k t) (m : Nat) :
    ∀ (i : Nat) (s : Shared), n - i = m → i ≤ n → St i s → TxSet P w s.heap C (metT (xs.take i)) →
      (∀ s', Moved (C :: wr) G s s' → TxSet P w s'.heap C (metT xs) → R (.ok (.ret .none)) s') → codeAny (model P w) A (.builtin "set.update.loop" ⟨[.ref C, .ref I], []⟩) R s := by
  have cw : C ∉ wr := fun h => hC (W.sub _ h)
  have ws : ∀ b ∈ wr, b ∈ C :: wr := fun b hb => List.mem_cons_of_mem _ hb
  induction m with
  | zero =>
    intro i s hm hi st hS hR
    obtain rfl : i = n := by omega
    refine codeAny_builtin F.entry_set_update_loop ?_
    rw [Around.under_plainId F.plain_set_update_loop _]
    show wpAny _ A.in1 (pyNext (.ref I) >>= _) _ _ s
    refine wpAny_bind (W.done s _ _ st fun s1 mv => ?_)
    rw [List.take_of_length_le (by omega)] at hS
    exact wpAny_pure (hR s1 (mv.mono ws) (hS.at_ fun o e => mv.heap C o cw e))
  | succ m ih =>
    intro i s hm hi st hS hR
    have lt : i < n := by omega
    refine codeAny_builtin F.entry_set_update_loop ?_
    rw [Around.under_plainId F.plain_set_update_loop _]
    show wpAny _ A.in1 (pyNext (.ref I) >>= _) _ _ s
    refine wpAny_bind (W.item i s _ _ lt st fun v s1 hp st1 mv => ?_)
    obtain ⟨z, t, hz, rfl⟩ := hv i v hp
    show wpAny _ A.in1 (holding [Value.str z t] (setAdd C (.str z t)) >>= _) _ _ s1
    refine wpAny_bind (wpAny_holding ?_)
    unfold setAdd
    refine wpAny_holding ?_
    refine wpAny_bind ((strKind P w).pyHash (k := z) (is_str z t) ?_)
    have hlen := metT_len (xs.take i)
    rw [List.length_take] at hlen
    refine TxSet.add (s := { s1 with toks := s1.toks + 1 }) (hS.at_ fun o e => mv.heap C o cw e) (by omega) fun h2 b2 sb hS2 => ?_
    rw [← metT_take hz] at hS2
    refine wpAny_pure ⟨plainId_quiet F.plain_set_update_loop _, ih (i + 1) _ (by omega) lt (W.frame _ s1 _ _ st1 (Nat.le_succ _) fun b hb o e => ?_) hS2 fun s3 mv3 hS3 => ?_⟩
    · rw [sb.2 b (fun q : b = C => hC (q ▸ hb))]; exact e
    · refine hR s3 (Moved.trans W.gtrans ((mv.mono ws).then_heap (Nat.le_succ _) fun b o hb e => ?_) mv3) hS3
      rw [sb.2 b (fun q : b = C => hb (by rw [q]; exact List.mem_cons_self))]; exact e
set_option maxHeartbeats 8000000 in
theorem set_of_list {p : Addr} {items : Array Value} (xs : List Str) {Q : Value → Shared → Prop} (hh : A.handled = none) (hp : s.heap.IsList p items) (hi : StrsAre items.toList xs) (hb : xs.length + 1 < scanBound)
    (h : ∀ (h2 : Heap) (tk : Nat), TxSet P w h2 s.heap.objs.size (metT xs) → (∀ b o, s.heap.get? b = some o → h2.get? b = some o) → Q (.ref s.heap.objs.size) { s with heap := h2, toks := tk }) : wpAny (model P w) A (call (.type "set") [.ref p]) Q E s := by
  have hsz : items.size = xs.length := by
    have q := hi.length
    rwa [Array.length_toList] at q
  obtain ⟨c0, t0, hmro⟩ := PySem.F.called_set.mro
  have hmade0 := PySem.F.called_set.made
  have hsub0 := PySem.F.called_set.sub
  refine wpAny_call (codeAny_of_tree ?_)
  show wpAny _ _ (callAny (.type "set") _) _ _ _
  refine wpAny_pure ⟨Code.quiet_builtin _ (by decide +kernel), codeAny_builtin PySem.F.entry_type_call ?_⟩
  rw [Around.under_plain (weight_type_call_type "set" [.ref p] []) rfl]
  have f1 := PySem.F.called_set.notType
  have f2 := PySem.F.called_set.canCreate
  have f3 := PySem.F.typeCall_set_1 (.ref p)
  repeat (any_goals (first | assumption | wp_step))
  refine codeAny_mono (code_set_led1 (.ref p) (E := E) (Q₁ := fun z s1 => z = .ref s.heap.objs.size ∧ s1 = { s with heap := s.heap.push (setNo w) }) ⟨rfl, rfl⟩) fun r s1 hr => ?_
  cases r with
  | error e => exact hr
  | ok fl =>
    cases fl with
    | ret z =>
      obtain ⟨rfl, rfl⟩ := hr
      have at0 : (s.heap.push (setNo w)).get? s.heap.objs.size = some (setNo w) := Heap.get?_push_size _ rfl
      have ty0 : Shared.TypeIs { s with heap := s.heap.push (setNo w) } (.ref s.heap.objs.size) "set" := ⟨_, at0, rfl⟩
      have g1 := PySem.F.called_set.init.lookup
      have g2 := PySem.F.called_set.init.bind (.ref s.heap.objs.size)
      repeat (any_goals (first | assumption | wp_step))
      refine codeAny_mono (codeAny_call_builtin (R := wants (fun r s2 => r = .none ∧ ∃ h2 tk, s2 = { s with heap := h2, toks := tk } ∧ TxSet P w h2 s.heap.objs.size (metT xs) ∧
          (∀ b o, s.heap.get? b = some o → h2.get? b = some o)) E) PySem.F.called_set.init.plain PySem.F.entry_set_init (check_set_init_1 ty0 ?_)) fun r2 s2 hr2 => ?_
      · obtain ⟨op, hop, hcl, nn, hdl⟩ := hp
        obtain ⟨ocls, odict, odata, oslots⟩ := op
        simp only at hcl hdl
        subst hcl; subst hdl
        have q1 := PySem.F.sub_list_set
        have q2 := PySem.F.sub_list_frozenset
        have q3 : (Value.type "list" == Value.type "dict") = false := by decide
        have hop2 : (s.heap.push (setNo w)).get? p = some { cls := .type "list", dict := odict, data := .seq items nn, slots := oslots } := Heap.get?_push_of_some _ hop
        have p1 : (s.heap.push (setNo w)).IsList p items := ⟨_, hop2, rfl, nn, rfl⟩
        unfold Builtin.«set.__init__» noKeywords Builtin.Frozenset.updateFrom
        generalize hPI : pyIter = PI
        wp_walk
        subst hPI
        refine wpAny_pyIter_list p1 ?_
        refine wpAny_bind (wpAny_runValue ?_)
        have plt : p < s.heap.objs.size := Heap.lt_size hop
        have hh3 : A.in1.in1.in1.handled = none := by simp [hh]
        have neI : p ≠ (s.heap.push (setNo w)).objs.size := by
          rw [Heap.size_push]; exact Nat.ne_of_lt (Nat.lt_succ_of_lt plt)
        have nf : s.heap.objs.size ∉ [(s.heap.push (setNo w)).objs.size, p] := by
          rw [Heap.size_push]
          simp only [List.mem_cons, List.not_mem_nil, or_false, not_or]
          exact ⟨Nat.ne_of_lt (Nat.lt_succ_self _), Nat.ne_of_gt plt⟩
        have hv : ∀ (i : Nat) (v : Value), items[i]? = some v → ∃ k t, xs[i]? = some k ∧ v = .str k t := fun i v hv => by
          have hi2 : i < xs.length := by rw [← hsz]; exact (Array.getElem?_eq_some_iff.mp hv).1
          obtain ⟨t, e⟩ := SS.strs_at hi i v (by rw [Array.getElem?_toList]; exact hv)
          refine ⟨xs[i], t, List.getElem?_eq_getElem hi2, ?_⟩
          rw [e, List.getD_eq_getElem?_getD, List.getElem?_eq_getElem hi2] <;> rfl
        refine texts_in ((Walks.list hh3 _ p neI items).toS) (C := s.heap.objs.size) nf xs hsz hb hv (items.size - 0) 0 _ (by omega) (Nat.zero_le _) ⟨⟨_, Heap.get?_push_size _ rfl, rfl, rfl⟩, (p1.push _)⟩ ?hS0 ?hR
        case hS0 =>
          exact TxSet.none (Heap.get?_push_of_some _ at0)
        case hR =>
          intro s3 mv hS3
          obtain ⟨h3, n3, d3, t3, o3⟩ := s3
          have e1 : n3 = s.gens := mv.gens
          have e2 : d3 = s.drawn := mv.drawn
          have e3 : o3 = s.os := mv.os
          subst e1; subst e2; subst e3
          show wpAny _ _ _ _ _ _
          refine wpAny_pure ?_
          show wpAny _ _ (ret Value.none) _ _ _
          refine wpAny_pure ⟨rfl, h3, t3, rfl, hS3, fun b o e => ?_⟩
          have lb : b < s.heap.objs.size := Heap.lt_size e
          have n1 : b ≠ s.heap.objs.size := Nat.ne_of_lt lb
          have n2 : b ≠ (s.heap.push (setNo w)).objs.size := by
            rw [Heap.size_push]; exact Nat.ne_of_lt (Nat.lt_succ_of_lt lb)
          exact mv.heap b o (by simp only [List.mem_cons, List.not_mem_nil, or_false, not_or]; exact ⟨n1, n2⟩) (Heap.get?_push_of_some _ (Heap.get?_push_of_some _ e))
      · cases r2 with
        | error e => exact hr2
        | ok fl2 =>
          cases fl2 with
          | ret r =>
            obtain ⟨rfl, h2, tk, rfl, hS2, k2⟩ := hr2
            repeat (any_goals (first | assumption | wp_step))
            exact h _ _ hS2 k2
          | _ => exact hr2.elim
    | _ => exact hr.elim
set_option maxHeartbeats 8000000 in
theorem set_of_tuple {p : Addr} {items : Array Value} (xs : List Str) {Q : Value → Shared → Prop} (hh : A.handled = none) (hp : s.heap.IsTuple p items) (hi : StrsAre items.toList xs) (hb : xs.length + 1 < scanBound)
    (h : ∀ (h2 : Heap) (tk : Nat), TxSet P w h2 s.heap.objs.size (metT xs) → (∀ b o, s.heap.get? b = some o → h2.get? b = some o) → Q (.ref s.heap.objs.size) { s with heap := h2, toks := tk }) : wpAny (model P w) A (call (.type "set") [.ref p]) Q E s := by
  have hsz : items.size = xs.length := by
    have q := hi.length
    rwa [Array.length_toList] at q
  obtain ⟨c0, t0, hmro⟩ := PySem.F.called_set.mro
  have hmade0 := PySem.F.called_set.made
  have hsub0 := PySem.F.called_set.sub
  refine wpAny_call (codeAny_of_tree ?_)
  show wpAny _ _ (callAny (.type "set") _) _ _ _
  refine wpAny_pure ⟨Code.quiet_builtin _ (by decide +kernel), codeAny_builtin PySem.F.entry_type_call ?_⟩
  rw [Around.under_plain (weight_type_call_type "set" [.ref p] []) rfl]
  have f1 := PySem.F.called_set.notType
  have f2 := PySem.F.called_set.canCreate
  have f3 := PySem.F.typeCall_set_1 (.ref p)
  repeat (any_goals (first | assumption | wp_step))
  refine codeAny_mono (code_set_led1 (.ref p) (E := E) (Q₁ := fun z s1 => z = .ref s.heap.objs.size ∧ s1 = { s with heap := s.heap.push (setNo w) }) ⟨rfl, rfl⟩) fun r s1 hr => ?_
  cases r with
  | error e => exact hr
  | ok fl =>
    cases fl with
    | ret z =>
      obtain ⟨rfl, rfl⟩ := hr
      have at0 : (s.heap.push (setNo w)).get? s.heap.objs.size = some (setNo w) := Heap.get?_push_size _ rfl
      have ty0 : Shared.TypeIs { s with heap := s.heap.push (setNo w) } (.ref s.heap.objs.size) "set" := ⟨_, at0, rfl⟩
      have g1 := PySem.F.called_set.init.lookup
      have g2 := PySem.F.called_set.init.bind (.ref s.heap.objs.size)
      repeat (any_goals (first | assumption | wp_step))
      refine codeAny_mono (codeAny_call_builtin (R := wants (fun r s2 => r = .none ∧ ∃ h2 tk, s2 = { s with heap := h2, toks := tk } ∧ TxSet P w h2 s.heap.objs.size (metT xs) ∧
          (∀ b o, s.heap.get? b = some o → h2.get? b = some o)) E) PySem.F.called_set.init.plain PySem.F.entry_set_init (check_set_init_1 ty0 ?_)) fun r2 s2 hr2 => ?_
      · obtain ⟨op, hop, hcl, nn, hdl⟩ := hp
        obtain ⟨ocls, odict, odata, oslots⟩ := op
        simp only at hcl hdl
        subst hcl; subst hdl
        have q1 := PySem.F.sub_tuple_set
        have q2 := PySem.F.sub_tuple_frozenset
        have q3 : (Value.type "tuple" == Value.type "dict") = false := by decide
        have hop2 : (s.heap.push (setNo w)).get? p = some { cls := .type "tuple", dict := odict, data := .seq items nn, slots := oslots } := Heap.get?_push_of_some _ hop
        have p1 : (s.heap.push (setNo w)).IsTuple p items := ⟨_, hop2, rfl, nn, rfl⟩
        unfold Builtin.«set.__init__» noKeywords Builtin.Frozenset.updateFrom
        generalize hPI : pyIter = PI
        wp_walk
        subst hPI
        refine wpAny_pyIter_tuple p1 ?_
        refine wpAny_bind (wpAny_runValue ?_)
        have plt : p < s.heap.objs.size := Heap.lt_size hop
        have hh3 : A.in1.in1.in1.handled = none := by simp [hh]
        have neI : p ≠ (s.heap.push (setNo w)).objs.size := by
          rw [Heap.size_push]; exact Nat.ne_of_lt (Nat.lt_succ_of_lt plt)
        have nf : s.heap.objs.size ∉ [(s.heap.push (setNo w)).objs.size, p] := by
          rw [Heap.size_push]
          simp only [List.mem_cons, List.not_mem_nil, or_false, not_or]
          exact ⟨Nat.ne_of_lt (Nat.lt_succ_self _), Nat.ne_of_gt plt⟩
        have hv : ∀ (i : Nat) (v : Value), items[i]? = some v → ∃ k t, xs[i]? = some k ∧ v = .str k t := fun i v hv => by
          have hi2 : i < xs.length := by rw [← hsz]; exact (Array.getElem?_eq_some_iff.mp hv).1
          obtain ⟨t, e⟩ := SS.strs_at hi i v (by rw [Array.getElem?_toList]; exact hv)
          refine ⟨xs[i], t, List.getElem?_eq_getElem hi2, ?_⟩
          rw [e, List.getD_eq_getElem?_getD, List.getElem?_eq_getElem hi2] <;> rfl
        refine texts_in ((Walks.tuple hh3 _ p neI items).toS) (C := s.heap.objs.size) nf xs hsz hb hv (items.size - 0) 0 _ (by omega) (Nat.zero_le _) ⟨⟨_, Heap.get?_push_size _ rfl, rfl, rfl⟩, (p1.push _)⟩ ?hS0 ?hR
        case hS0 =>
          exact TxSet.none (Heap.get?_push_of_some _ at0)
        case hR =>
          intro s3 mv hS3
          obtain ⟨h3, n3, d3, t3, o3⟩ := s3
          have e1 : n3 = s.gens := mv.gens
          have e2 : d3 = s.drawn := mv.drawn
          have e3 : o3 = s.os := mv.os
          subst e1; subst e2; subst e3
          show wpAny _ _ _ _ _ _
          refine wpAny_pure ?_
          show wpAny _ _ (ret Value.none) _ _ _
          refine wpAny_pure ⟨rfl, h3, t3, rfl, hS3, fun b o e => ?_⟩
          have lb : b < s.heap.objs.size := Heap.lt_size e
          have n1 : b ≠ s.heap.objs.size := Nat.ne_of_lt lb
          have n2 : b ≠ (s.heap.push (setNo w)).objs.size := by
            rw [Heap.size_push]; exact Nat.ne_of_lt (Nat.lt_succ_of_lt lb)
          exact mv.heap b o (by simp only [List.mem_cons, List.not_mem_nil, or_false, not_or]; exact ⟨n1, n2⟩) (Heap.get?_push_of_some _ (Heap.get?_push_of_some _ e))
      · cases r2 with
        | error e => exact hr2
        | ok fl2 =>
          cases fl2 with
          | ret r =>
            obtain ⟨rfl, h2, tk, rfl, hS2, k2⟩ := hr2
            repeat (any_goals (first | assumption | wp_step))
            exact h _ _ hS2 k2
          | _ => exact hr2.elim
    | _ => exact hr.elim
end
end Ds
namespace Ds
open PySem PySem.Spec PyProof.Rows L2 PySem.Froz
def leS (a b : Str) : Bool := !ltCps b.cps.toList a.cps.toList
def sortT (xs : List Str) : List Str := xs.mergeSort leS
theorem leS_lt (a b : Str) : leS a b = !decide (b.cps.toList < a.cps.toList) := by unfold leS; rw [ltCps_eq]
theorem leS_total (a b : Str) : (leS a b || leS b a) = true := by
  rw [leS_lt, leS_lt]
  by_cases h : b.cps.toList < a.cps.toList
  · have h2 : ¬ a.cps.toList < b.cps.toList := List.lt_asymm h
    simp [h, h2]
  · simp [h]
theorem leS_trans (a b c : Str) (h1 : leS a b = true) (h2 : leS b c = true) : leS a c = true := by
  rw [leS_lt] at *
  have h1 : ¬ b.cps.toList < a.cps.toList := by simpa using h1
  have h2 : ¬ c.cps.toList < b.cps.toList := by simpa using h2
  have : ¬ c.cps.toList < a.cps.toList := fun h => by
    have := List.le_trans (List.not_lt.mp h1) (List.not_lt.mp h2)
    exact List.not_lt.mpr this h
  simpa using this
theorem leS_anti {a b : Str} (h1 : leS a b = true) (h2 : leS b a = true) : a = b := by
  rw [leS_lt] at *
  have h1 : ¬ b.cps.toList < a.cps.toList := by simpa using h1
  have h2 : ¬ a.cps.toList < b.cps.toList := by simpa using h2
  exact Str.ext' (Array.toList_inj.mp (List.le_antisymm (List.not_lt.mp h1) (List.not_lt.mp h2)))
theorem rising_le : ∀ {l : List Str} {p : Str}, risingS p l = true → (p :: l).Pairwise fun a b => leS a b = true
  | [], p, _ => List.pairwise_singleton _ _
  | x :: r, p, h => by
    have h : (!ltCps x.cps.toList p.cps.toList && risingS x r) = true := h
    rw [Bool.and_eq_true] at h
    have ih := rising_le h.2
    refine List.pairwise_cons.mpr ⟨fun y hy => ?_, ih⟩
    rcases List.mem_cons.mp hy with e | hy
    · subst e; exact h.1
    · exact leS_trans p x y h.1 ((List.pairwise_cons.mp ih).1 y hy)
theorem sortedS_le {l : List Str} (h : sortedS l = true) : l.Pairwise fun a b => leS a b = true := by
  cases l with
  | nil => exact List.Pairwise.nil
  | cons x r => exact rising_le h
theorem sort_one : ∀ {xs ys : List Str}, (xs.Pairwise fun a b => leS a b = true) → (ys.Pairwise fun a b => leS a b = true) → xs.Perm ys → xs = ys
  | [], ys, _, _, p => (List.nil_perm.mp p).symm
  | x :: xs, [], _, _, p => absurd p (List.not_perm_cons_nil)
  | x :: xs, y :: ys, h1, h2, p => by
    have e : x = y := by
      have m1 := p.mem_iff.mp (List.mem_cons_self (a := x))
      have m2 := p.mem_iff.mpr (List.mem_cons_self (a := y))
      rcases List.mem_cons.mp m1 with e | m1
      · exact e
      · rcases List.mem_cons.mp m2 with e | m2
        · exact e.symm
        · exact leS_anti ((List.pairwise_cons.mp h1).1 y m2) ((List.pairwise_cons.mp h2).1 x m1)
    subst e
    rw [sort_one (List.pairwise_cons.mp h1).2 (List.pairwise_cons.mp h2).2 (List.perm_cons x |>.mp p)]
theorem sortT_of {xs ys : List Str} (h : sortedS ys = true) (p : ys.Perm xs) : ys = sortT xs :=
  sort_one (sortedS_le h) (List.pairwise_mergeSort leS_trans leS_total xs) (p.trans (List.mergeSort_perm xs leS).symm)
theorem mem_addT {l : List Str} {x y : Str} : y ∈ addT l x ↔ y ∈ l ∨ y = x := by
  unfold addT
  split
  · rename_i h
    exact ⟨.inl, fun z => z.elim id fun e => e ▸ h⟩
  · rw [List.mem_cons]
    exact Or.comm
theorem mem_metT {xs : List Str} {y : Str} : y ∈ metT xs ↔ y ∈ xs := by
  have h : ∀ (xs l : List Str), y ∈ xs.foldl addT l ↔ y ∈ l ∨ y ∈ xs := fun xs => by
    induction xs with
    | nil => intro l; simp
    | cons x r ih =>
      intro l
      rw [List.foldl_cons, ih, mem_addT, List.mem_cons]
      exact or_assoc
  have := h xs []
  simpa [metT] using this
theorem perm_of_in : ∀ {l m : List Str}, l.Nodup → (∀ x ∈ l, x ∈ m) → m.length ≤ l.length → l.Perm m
  | [], m, _, _, hl => by
    have : m = [] := List.length_eq_zero_iff.mp (by simpa using hl)
    rw [this]
  | x :: l, m, nd, sub, hl => by
    obtain ⟨n1, n2⟩ := List.nodup_cons.mp nd
    have hx := sub x List.mem_cons_self
    have p := List.perm_cons_erase hx
    have hlen := p.length_eq
    rw [List.length_cons] at hlen hl
    refine (List.Perm.cons x (perm_of_in n2 (fun y hy => ?_) (by omega))).trans p.symm
    have hne : y ≠ x := fun e => n1 (e ▸ hy)
    exact (List.mem_erase_of_ne hne).mpr (sub y (List.mem_cons_of_mem _ hy))
def SetX (P : Program) (w : World) (a : Addr) (l : List Str) : HO := .ext fun h => TxSet P w h a l
theorem setX_new {P : Program} {w : World} {H : Hp} {h : Heap} {a : Addr} {l : List Str} (R : TxSet P w h a l) : ObjOk P w H h a (SetX P w a l) := by
  have ⟨D, ho, _⟩ := R
  exact ⟨R, ⟨_, ho⟩, fun h1 h2 p k => TxSet.at_ p k⟩
section
variable {X : Cx}
theorem setX_get {pins : List (Addr × Obj)} {σ : L2.St} {H : Hp} {s : Shared} {a : Addr} {l : List Str} (I : Inv X pins σ H s) (ha : H a = some (SetX X.prog X.w a l)) : TxSet X.prog X.w s.heap a l := (I.hok a _ ha).1
def rSetX (P : Program) (w : World) (K : PySem.W.Frag) : List V → Hp → VK → Prop := fun xs H Q => ∃ (p : Addr) (ts : List Str), xs = [.ref p] ∧ (SqL K H p (ts.map V.str) ∨ SqT K H p (ts.map V.str)) ∧ ts.length + 1 < scanBound ∧ ∀ q, H q = none → Q (.ref q) (upd H q (SetX P w q (metT ts)))
theorem cr_setX (hc : X.calm = true) : CallR X (.type "set") (rSetX X.prog X.w X.K) := by
  intro pins s σ H xs us Q I r h
  obtain ⟨p, ts, rfl, hs, hb, q⟩ := h
  rw [Vals.ref1 r]
  have fin : ∀ (h2 : Heap) (tk : Nat), TxSet X.prog X.w h2 s.heap.objs.size (metT ts) → (∀ b o, s.heap.get? b = some o → h2.get? b = some o) → EP X pins σ Q (.ref s.heap.objs.size) { s with heap := h2, toks := tk } := fun h2 tk R k =>
    ⟨.ref _, upd H s.heap.objs.size (SetX X.prog X.w s.heap.objs.size (metT ts)), I.laid (t' := tk) k (Nat.le_refl _) (setX_new R), rfl, q _ (I.hok.fresh (Nat.le_refl _))⟩
  rcases hs with hs | hs
  · obtain ⟨its, rv, hl, _⟩ := I.list hs
    exact set_of_list ts (I.ok.hd hc) hl.isList (by simpa using strsAre_of rv) hb fin
  · obtain ⟨its, rv, hl, _⟩ := I.tuple hs
    exact set_of_tuple ts (I.ok.hd hc) (show s.heap.IsTuple p its.toArray from hl) (by simpa using strsAre_of rv) hb fin
def rSortX (P : Program) (w : World) : List V → Hp → VK → Prop := fun xs H Q => ∃ (a : Addr) (l : List Str), xs = [.ref a] ∧ H a = some (SetX P w a l) ∧ ∀ p, H p = none → Q (.ref p) (upd H p (.lst ((sortT l).map V.str)))
theorem cr_sortX (hc : X.calm = true) : CallR X (.builtin "sorted") (rSortX X.prog X.w) := by
  intro pins s σ H xs us Q I r h
  obtain ⟨a, l, rfl, ha, q⟩ := h
  rw [Vals.ref1 r]
  obtain ⟨D, ho, F, r1, hled, nd, hb⟩ := setX_get I ha
  have hz : D.1.size = l.length := F.sz
  have hh : X.A.handled = none := I.ok.hd hc
  have hsb : scanBound = 4096 := rfl
  have hln : sizeLine = 16777216 := rfl
  refine Calls.call_function_entry kind_sorted plain_sorted entry_sorted (args_sorted1 _) ?_
  unfold Builtin.«sorted»
  refine wpAny_bind (m := checkCount "sorted" 1 1 _) (wpAny_pure ?_)
  refine wpAny_bind (collect_set (A := X.A.in1) hh ⟨_, ho, rfl, rfl⟩ F.fit (by show D.1.size < _; omega) r1 hled fun s1 vs k1 z1 g1 o1 pm => ?_)
  have hvl : vs.length = l.length := by rw [pm.length_eq, List.length_map, Array.length_toList]; exact hz
  -- what the entries tell: the texts, each once
  have ent : ∀ v ∈ vs, ∃ k t, v = Value.str k t ∧ k ∈ l := fun v hv => by
    obtain ⟨e, he, q⟩ := List.mem_map.mp (pm.mem_iff.mp hv)
    obtain ⟨⟨k, hk, _⟩, _⟩ := F.el e he
    rw [q] at hk
    have hv2 : ∃ t, v = Value.str k t := by
      have hk : Value.isStrOf k v = true := hk
      cases v <;> simp [Value.isStrOf] at hk
      exact ⟨_, by rw [hk]⟩
    obtain ⟨t, ht⟩ := hv2
    exact ⟨k, t, ht, (F.mem k).mpr ⟨e, he, by rw [q, ht]; exact is_str k t⟩⟩
  have hS : StrsAre vs (vs.map strOf) := strsAre_map vs fun v hv => by
    obtain ⟨k, t, e, _⟩ := ent v hv
    exact ⟨k, t, e⟩
  have pl : l.Perm (vs.map strOf) := perm_of_in nd (fun k hk => by
    obtain ⟨e, he, q⟩ := (F.mem k).mp hk
    have hv : e.2 ∈ vs := pm.mem_iff.mpr (List.mem_map_of_mem he)
    obtain ⟨k2, t, e2, _⟩ := ent _ hv
    have : (strKind X.prog X.w).is k2 e.2 = true := by rw [e2]; exact is_str k2 t
    have hkk : k = k2 := (strKind X.prog X.w).inj e.2 k k2 q this
    refine List.mem_map.mpr ⟨e.2, hv, ?_⟩
    rw [e2, hkk]
    rfl) (by rw [List.length_map, hvl]; omega)
  refine wpAny_bind (wpAny_newList ?_ (by rw [hvl]; omega))
  have at1 : (s1.heap.push (seqObj "list" vs.toArray 0)).get? s1.heap.objs.size = some (seqObj "list" vs.toArray 0) := Heap.get?_push_size _ rfl
  refine wpAny_bind (wpAny_holding (wpAny_call_entry slot_list_sort ⟨_, at1, rfl⟩ entry_list_sort (list_sort_treeKAny strKind_oneLt at1 hS.keysOf (fun v1 v2 rest e => keyKind_strs (by rw [← e]; exact hS)) (by rw [hvl]; omega) fun st2 hp hs => ⟨_, rfl, ?_⟩) (args_list_sort _)))
  obtain ⟨ss2, h1, h2, h3⟩ := sorted_out_str hS hp hs
  obtain ⟨c, hc2⟩ := sortedHeap_at (vs := vs) (out := (arrOf st2).map (·.2)) at1
  have e2 : ss2 = sortT l := sortT_of h3 (h2.trans pl.symm)
  have keep : ∀ b u, s.heap.get? b = some u → (sortedHeap (s1.heap.push (seqObj "list" vs.toArray 0)) s1.heap.objs.size vs ((arrOf st2).map (·.2))).get? b = some u := fun b u e => by
    have q := k1 b u e
    have hlt := Heap.lt_size q
    rw [sortedHeap_old (Nat.ne_of_lt hlt) (by rw [Heap.size_push]; exact Nat.lt_succ_of_lt hlt)]
    exact Heap.get?_push_of_some _ q
  refine wpAny_pure ⟨_, rfl, ?_⟩
  have hn : H s1.heap.objs.size = none := I.hok.fresh z1
  have hlen : ((sortT l).map V.str).length ≤ sizeLine := by rw [List.length_map, ← e2, h2.length_eq, List.length_map, hvl]; omega
  have J : Inv X pins σ (upd H s1.heap.objs.size (.lst ((sortT l).map V.str))) { s with heap := sortedHeap (s1.heap.push (seqObj "list" vs.toArray 0)) s1.heap.objs.size vs ((arrOf st2).map (·.2)), gens := s1.gens, drawn := s1.drawn, toks := s1.toks } :=
    I.call (ch := []) (Un.laid keep z1 hn) (I.hok.laid keep z1 ⟨hlen, ((arrOf st2).map (·.2)).toList, c, by rw [← e2]; exact vals_of_strs h1, hc2⟩) (by rw [g1]; exact I.bare) (fun _ z => nomatch z)
  obtain ⟨hp1, gn1, dr1, tk1, os1⟩ := s1
  have o1 : os1 = s.os := o1
  subst o1
  exact ⟨.ref hp1.objs.size, _, J, rfl, q _ hn⟩
end
end Ds
namespace Ds
open PySem PySem.Spec PyProof.Rows L2 Dn
theorem ext_tup (l : Addr) (us : Array Value) (n : Nat) (b : Addr) (vs : Array Value) (n2 : Nat) (dd : Option Addr) (sl : Array (Option Value)) (h0 : ¬(!us.isEmpty && Builtin.List.listTooLong (us.size + vs.size)) = true) (h1 : us.size ≤ sizeLine) (h2 : us.size + vs.size ≤ sizeLine + 1) :
    Meets (Builtin.«list.extend» ⟨[.ref l, .ref b], []⟩) (fun _ R s => s.heap.get? l = some { cls := .type "list", dict := none, data := .seq us n, slots := #[] } ∧ s.heap.get? b = some { cls := .type "tuple", dict := dd, data := .seq vs n2, slots := sl } ∧ R (.ok (.ret Value.none)) { s with heap := s.heap.update l (Obj.mapSeq fun x => x ++ vs), toks := s.toks }) :=
  .of_wp fun prog w A R s h => by
    obtain ⟨hp, g, d, tk, os⟩ := s; obtain ⟨k1, k2, k3⟩ := h; have f1 := AutoSeq1.idx_int; have f2 := AutoSeq1.sub_tuple_tuple; have f3 := AutoSeq1.sub_list_list; have f4 := AutoSeq1.sub_tuple_list; have f5 := AutoSeq1.sub_list_tuple
    have hz : (us ++ vs).size ≤ sizeLine + 1 := by rw [Array.size_append]; exact h2
    wp_walk using (wpAny_updateSeq k1 rfl (hz := h1) (_hz' := hz)), AutoSeq1.wpAny_loadPart' k1, AutoSeq1.wpAny_loadPart' k2
    exact ⟨_, rfl, k3⟩
theorem ext_lst (l : Addr) (us : Array Value) (n : Nat) (b : Addr) (vs : Array Value) (n2 : Nat) (dd : Option Addr) (sl : Array (Option Value)) (h0 : ¬(!us.isEmpty && Builtin.List.listTooLong (us.size + vs.size)) = true) (h1 : us.size ≤ sizeLine) (h2 : us.size + vs.size ≤ sizeLine + 1) :
    Meets (Builtin.«list.extend» ⟨[.ref l, .ref b], []⟩) (fun _ R s => s.heap.get? l = some { cls := .type "list", dict := none, data := .seq us n, slots := #[] } ∧ s.heap.get? b = some { cls := .type "list", dict := dd, data := .seq vs n2, slots := sl } ∧ R (.ok (.ret Value.none)) { s with heap := s.heap.update l (Obj.mapSeq fun x => x ++ vs), toks := s.toks }) :=
  .of_wp fun prog w A R s h => by
    obtain ⟨hp, g, d, tk, os⟩ := s; obtain ⟨k1, k2, k3⟩ := h; have f1 := AutoSeq1.idx_int; have f2 := AutoSeq1.sub_tuple_tuple; have f3 := AutoSeq1.sub_list_list; have f4 := AutoSeq1.sub_tuple_list; have f5 := AutoSeq1.sub_list_tuple
    have hz : (us ++ vs).size ≤ sizeLine + 1 := by rw [Array.size_append]; exact h2
    wp_walk using (wpAny_updateSeq k1 rfl (hz := h1) (_hz' := hz)), AutoSeq1.wpAny_loadPart' k1, AutoSeq1.wpAny_loadPart' k2
    exact ⟨_, rfl, k3⟩
section
variable {X : Cx}
def rExtA (K : PySem.W.Frag) : V → List V → Hp → VK → Prop := fun x vs H Q => ∃ l b xs zs, x = .ref l ∧ vs = [.ref b] ∧ H l = some (.lst xs) ∧ (SqL K H b zs ∨ SqT K H b zs) ∧ xs.length + zs.length ≤ sizeLine ∧ Q .non (upd H l (.lst (xs ++ zs)))
theorem mt_extA : MtM X "list.extend" (rExtA X.K) := by
  intro pins s σ H x vs v us Q I rx rv h
  obtain ⟨l, b, xs, zs, rfl, rfl, hH, hB, hz, q⟩ := h
  cases rx
  obtain ⟨u, rfl, ru⟩ := rv.one
  cases ru
  obtain ⟨z, its, n, r, hl, e⟩ := I.lstM hH
  have fin : ∀ (jts : List Value), Vals zs jts → EP X pins σ Q Value.none { s with heap := s.heap.update l (Obj.mapSeq fun x => x ++ jts.toArray), toks := s.toks } := fun jts r2 => by
    refine ⟨.non, _, I.lset (its' := its ++ jts) hH e (by simp) (r.append r2) ?_, rfl, q⟩
    rw [List.length_append]
    omega
  have len : ∀ (jts : List Value), Vals zs jts → its.toArray.size + jts.toArray.size ≤ sizeLine := fun jts r2 => by
    have := r2.length
    have := r.length
    rw [List.size_toArray, List.size_toArray]
    omega
  have lng : ∀ (jts : List Value), Vals zs jts → ¬ (!its.toArray.isEmpty && Builtin.List.listTooLong (its.toArray.size + jts.toArray.size)) = true := fun jts r2 => by
    rw [notLongL (len jts r2), Bool.and_false]
    exact Bool.false_ne_true
  rcases hB with hB | hB
  · obtain ⟨jts, r2, ⟨o2, n2, g2, c2, d2, t2⟩, _⟩ := I.list hB
    obtain ⟨oc, od, odt, osl⟩ := o2
    simp only at c2 d2 t2
    subst c2 d2 t2
    have hs := len jts r2
    exact call_meets PySem.F.slot_list_extend ⟨_, e, rfl⟩ PySem.F.entry_list_extend (PySem.F.args_list_extend_2 _ _) (ext_lst l its.toArray n b jts.toArray n2 _ _ (lng jts r2) (by omega) (by omega)) ⟨e, g2, fin jts r2⟩
  · obtain ⟨jts, r2, ⟨o2, g2, c2, n2, t2⟩, _⟩ := I.tuple hB
    obtain ⟨oc, od, odt, osl⟩ := o2
    simp only at c2 t2
    subst c2 t2
    have hs := len jts r2
    exact call_meets PySem.F.slot_list_extend ⟨_, e, rfl⟩ PySem.F.entry_list_extend (PySem.F.args_list_extend_2 _ _) (ext_tup l its.toArray n b jts.toArray n2 _ _ (lng jts r2) (by omega) (by omega)) ⟨e, g2, fin jts r2⟩
end
section
variable {X : Cx} {E : XQ} {o v e : Expr} {pos : Pos} {ml : M Nat} {mc : M Cl}
/-- y.extend(x) -/
def mExt (ml : M Nat) (mc : M Cl) : M Fl := mBind (mIsL ml) fun l => mBind mc fun c δ => match δ.s[l]?, (snap δ.s c).bind itemsD with
  | some (.lst xs), some ds => if xs.length + ds.length ≤ sizeLine then .ok .nx ⟨δ.e, δ.s.set l (.lst (xs ++ ds.map Cl.sh))⟩ else .bad
  | _, _ => .bad
theorem js_ext {apos cpos : Pos} (ho : PE X o (tOfL X.K E ml)) (he : PE X v (tOfC X.K E mc))
    {PE0 : PE X (.Call (.Attribute o "extend" apos) [v] [] cpos) (tBM X.K "list" (rExtA X.K) (tOfL X.K E ml) (tCons (tOfC X.K E mc) tNil))}
    (hs : swapsWith (.Call (.Attribute o "extend" apos) [v] [] cpos) none pos.line X.env = pure false := by rfl) : PS X (.Expr (.Call (.Attribute o "extend" apos) [v] [] cpos) pos) (tOfS X.K E (mExt ml mc)) :=
  pst_imp (ps_expr PE0 hs) fun B σ H ⟨G, g, δ, re, po⟩ => by
    show tBM _ _ _ _ _ _ _ _
    unfold tBM
    refine isLS re po fun q l g1 H1 δ1 e1 re1 r1 ht po1 => ⟨ht, ?_⟩
    refine tOfC.stepS re1 po1 fun w c g2 H2 δ2 e2 re2 r2 po2 => ?_
    split at po2
    · rename_i xs ds hx hd
      split at po2
      · rename_i hl
        obtain ⟨d, hd1, hd2⟩ := Option.bind_eq_some_iff.mp hd
        have ha' := e2.r _ _ r1
        obtain ⟨vs, h1, h2⟩ := re2.lstAt ha' hx
        obtain ⟨p, ys, e3, hq, t⟩ := snap_items re2 r2 hd1 hd2
        refine ⟨q, p, vs, ys, rfl, by rw [e3], h1, hq, by rw [h2.length, t.length]; exact hl, ?_⟩
        exact PostS.of po2 (re2.write hx rfl ha' (.lst (h2.append (rps_cr t))))
      · exact po2.elim
    · exact po2.elim
/-- sorted(set(x)), x some texts -/
def mTexts (f : List Str → D) (mc : M Cl) : M D := mBind mc fun c δ => match ((snap δ.s c).bind itemsD).bind toSs with
  | some ts => if ts.length + 1 < scanBound then .ok (f (metT ts)) δ else .bad
  | none => .bad
theorem texts_at {K : Frag} {G : Hp} {g : Gh} {H : Hp} {σ : L2.St} {δ : Sx} (re : RE K G g H σ δ) {w : V} {c : Cl} {ts : List Str} (r : CR K g w c) (h : ((snap δ.s c).bind itemsD).bind toSs = some ts) : ∃ p, w = .ref p ∧ (SqL K H p (ts.map V.str) ∨ SqT K H p (ts.map V.str)) := by
  obtain ⟨ds, h1, h2⟩ := Option.bind_eq_some_iff.mp h
  obtain ⟨d, h3, h4⟩ := Option.bind_eq_some_iff.mp h1
  obtain ⟨p, ys, e, hq, t⟩ := snap_items re r h3 h4
  have e1 := toSs_eq h2
  subst e1
  have e2 := t.strs
  subst e2
  exact ⟨p, e, hq⟩
theorem je_sortSet {p p2 q : Pos} (hc : X.calm = true) (hg : Gl X "sorted") (hm : X.mg "sorted" = none) (hv : bootBuiltins "sorted" = some (.builtin "sorted")) (hg2 : Gl X "set") (hm2 : X.mg "set" = none) (hv2 : bootBuiltins "set" = some (.type "set")) (he : PE X e (tOfC X.K E mc))
    (h1 : starEach [e] X.env = (false, eval e X.env) :: starEach [] X.env := by rfl) (hpl : (backTo q (starEach [] X.env)).any (·.1) = false := by rfl)
    (h2 : starEach [.Call (.Name "set" p2) [e] [] q] X.env = (false, eval (.Call (.Name "set" p2) [e] [] q) X.env) :: starEach [] X.env := by rfl) (hpl2 : (backTo pos (starEach [] X.env)).any (·.1) = false := by rfl) :
    PE X (.Call (.Name "sorted" p) [.Call (.Name "set" p2) [e] [] q] [] pos) (tOf X.K E (mTexts (fun l => .list ((sortT l).map PyData.str)) mc)) :=
  pe_imp (pe_callB (cr_sortX hc) hg hm hv (pa_cons (pe_callTy (cr_setX hc) hg2 hm2 hv2 (pa_cons he pa_nil h1) (by decide) (by decide) h1 hpl) pa_nil h2) (by decide) (by decide) h2 hpl2) fun σ H Q ⟨G, g, δ, re, po⟩ => tOfC.step re po fun w c g1 H1 δ1 e1 re1 r1 po1 => by
    split at po1
    · rename_i ts hts
      split at po1
      · rename_i hl
        obtain ⟨a, rfl, hq⟩ := texts_at re1 r1 hts
        refine ⟨a, ts, rfl, hq, hl, fun b hb => ⟨b, metT ts, rfl, upd_same, fun c hcn => ?_⟩⟩
        have re2 := re1.newH (ex_new (o := SetX X.prog X.w b (metT ts)) hb)
        exact Post.grow po1 re2 (Grw.new re2.ex hcn) _ (.lst (SqL.of upd_same) (Rps.of_strs _))
      · exact po1.elim
    · exact po1.elim
end
end Ds
namespace Ds
open PySem PySem.Spec PyProof.Rows L2 Dn
section
variable {X : Cx} {E : XQ} {a b e o : Expr} {pos : Pos} {m : M D}
inductive KKeys : List DictEntry → List Str → Prop where
  | nil : KKeys [] []
  | cons {e : DictEntry} {r : List DictEntry} {x : Str} {t : Tok} {ks : List Str} : e.key = .str x t → KKeys r ks → KKeys (e :: r) (x :: ks)
def KDk (w : World) (K : Frag) (d : Addr) (ks : List Str) : Prop := ∃ es n, KDict K w d es n ∧ KKeys es.toList ks
theorem KKeys.find {es : List DictEntry} {ks : List Str} (h : KKeys es ks) (z : Str) : (es.find? (·.key.isStr z)).isSome = ks.contains z ∧ es.any (·.refKey) = false := by
  induction h with
  | nil => exact ⟨rfl, rfl⟩
  | @cons e r x t ks he _ ih =>
    have k1 : e.key.isStr z = (x == z) := by rw [he]; rfl
    have k2 : e.refKey = false := by unfold DictEntry.refKey; rw [he]
    refine ⟨?_, by rw [List.any_cons, ih.2, k2]; rfl⟩
    rw [List.find?_cons, k1, List.contains_cons]
    by_cases h : x = z
    · subst h; simp
    · have h1 : (x == z) = false := by simpa using h
      have h2 : (z == x) = false := by simpa using fun q => h q.symm
      rw [h1, h2, Bool.false_or]
      exact ih.1
theorem KDk.ns {w : World} {K : Frag} {d : Addr} {ks : List Str} (h : KDk w K d ks) : ∃ es n, KDict K w d es n ∧ ∀ z : Str, ∃ r, PySem.W.nsIn K d z = some r ∧ r.isSome = ks.contains z := by
  obtain ⟨es, n, D, k⟩ := h
  refine ⟨es, n, D, fun z => ?_⟩
  obtain ⟨h1, h2⟩ := k.find z
  unfold PySem.W.nsIn
  rw [D.at_]
  dsimp only
  cases q : es.toList.find? (·.key.isStr z) with
  | some e => rw [q] at h1; exact ⟨_, rfl, h1⟩
  | none => rw [q] at h1; rw [h2]; exact ⟨none, rfl, h1⟩
def mKIn (neg : Bool) (ks : List Str) (m : M D) : M D := mBind m fun e => mOpt ((toS e).map fun z => .bool (if neg then !ks.contains z else ks.contains z))
theorem kin_read {neg : Bool} {ks : List Str} {d : Addr} (hk : ∀ z : Str, ∃ r, PySem.W.nsIn X.K d z = some r ∧ r.isSome = ks.contains z) {σ : L2.St} {H : Hp} {Q : VK} (h : tOf X.K E (mKIn neg ks m) σ H Q) : tOp (fun x y H Q => ∃ (z : Str) (r : Option Value), x = .str z ∧ y = .ref d ∧ PySem.W.nsIn X.K d z = some r ∧ Q (.bl (if neg then !r.isSome else r.isSome)) H) (tOf X.K E m) (tC (.ref d)) σ H Q := by
  obtain ⟨G, g, δ, re, po⟩ := h
  refine tOf.step re po fun v e g1 H1 δ1 e1 re1 r1 po1 => ?_
  obtain ⟨c, hc, po2⟩ := Post.opt po1
  obtain ⟨z, hz, hc⟩ := Option.map_eq_some_iff.mp hc
  subst hc
  cases r1 <;> simp [toS] at hz
  subst hz
  obtain ⟨r, h1, h2⟩ := hk _
  refine ⟨_, r, rfl, rfl, h1, ?_⟩
  rw [h2]
  exact Post.of po2 re1 _ (.bl _)
theorem jt_kin {ks : List Str} {d : Addr} {x : Str} {p : Pos} (ha : PE X a (tOf X.K E m)) (hg : Gl X x) (hm : X.mg x = some (.ref d)) (hk : KDk X.w X.K d ks) (hd : (x == ("__debug__" : Str)) = false := by decide) (hb : behindInMarks .In (.Name x p) = false := by rfl) : PT X (.Compare a [.In] [.Name x p] pos) (tOfT X.K E (mTest (mKIn false ks m))) := by
  obtain ⟨es, n, D, h⟩ := hk.ns
  exact pt_imp (pt_cmpR (op_in_kd D) ha (pe_glob (v := .ref d) hg hm rfl hd) hb) fun _ _ _ q => testS (fun _ _ _ z => kin_read h z) q
end
end Ds
namespace Ds
open PySem PySem.Spec PyProof.Rows L2 Dn
/-- what an iterator of its own draws, bs: where its things lie -/
structure Src (P : Program) (w : World) (K : Frag) (J : It) (it : Addr) (bs : List Addr) (own : Nat → Heap → Prop) : Prop where
  obj : ∀ i h, own i h → ∃ o, h.get? it = some o ∧ ∀ v, o.data ≠ .cell v
  keep : ∀ i h h', own i h → (∀ o, h.get? it = some o → h'.get? it = some o) → own i h'
  go : ∀ (X : Cx), X.prog = P → X.w = w → X.K = K → X.calm = true → ∀ (i : Nat) (pins : List (Addr × Obj)) (s : Shared) (σ : L2.St) (H : Hp), Inv X pins σ H s → own i s.heap → J.go i H →
    ∃ (n : Nat) (Pv : Nat → Value → Prop) (T : Nat → Heap → Prop), Draws P w X.A.in1 it (it :: bs) n Pv T ∧ T i s.heap ∧ i < n ∧ (∀ j h', T j h' → own j h') ∧ ∀ u, Pv i u → ∃ x, RelV x u ∧ J.yld i H x H
  stop : ∀ (X : Cx), X.prog = P → X.w = w → X.K = K → X.calm = true → ∀ (i : Nat) (pins : List (Addr × Obj)) (s : Shared) (σ : L2.St) (H : Hp), Inv X pins σ H s → own i s.heap → J.stop i H →
    ∃ (Pv : Nat → Value → Prop) (T : Nat → Heap → Prop), Draws P w X.A.in1 it (it :: bs) i Pv T ∧ T i s.heap
/-- a value begins such an iterator -/
def Sour (X : Cx) (s : Shared) (u : Value) (J : It) : Prop := ∃ (o : Obj) (Hh : Heap → Prop) (bs : List Addr) (own : Addr → Nat → Heap → Prop), Begins u o Hh ∧ Hh s.heap ∧ (∀ b ∈ bs, b < s.heap.objs.size) ∧
  (∀ it h, h.get? it = some o → own it 0 h) ∧ ∀ it, it ∉ bs → Src X.prog X.w X.K J it bs (own it)
theorem draws_end {P : Program} {w : World} {A : Around} {it : Addr} {fp : List Addr} {T : Heap → Prop} (i : Nat) (lv : ∀ h, T h → ∃ o, h.get? it = some o) (fr : ∀ h h', T h → (∀ b ∈ fp, ∀ o, h.get? b = some o → h'.get? b = some o) → T h')
    (dn : ∀ (s : Shared) (Q : Value → Shared → Prop) (E : Value → Shared → Prop), T s.heap → (∀ h' e, Heap.ExtBut it s.heap h' → (∃ o, h'.get? e = some o ∧ o.cls = .type "StopIteration") → E (.ref e) { s with heap := h' }) → wpAny (model P w) A (Builtin.SmallTypes.nextOf (.ref it)) Q E s) :
    Draws P w A it fp i (fun _ _ => True) (fun j h => j = i ∧ T h) where
  live := fun j h ⟨_, t⟩ => lv h t
  frame := fun j h h' ⟨e, t⟩ k => ⟨e, fr h h' t k⟩
  item := fun j s Q E hlt ⟨e, _⟩ _ => absurd hlt (by omega)
  done := fun s Q E ⟨_, t⟩ hE => dn s Q E t hE
theorem src_tuple {P : Program} {w : World} {K : Frag} {a it : Addr} (hn : a ≠ it) : Src P w K (Itt K a) it [a] (fun i h => h.IsTupleIter it a i) where
  obj := fun i h ⟨o, e, _, d⟩ => ⟨o, e, fun v q => by rw [d] at q; cases q⟩
  keep := fun i h h' t k => t.at k
  go := by
    intro X hP hw hK hc i pins s σ H I t hg
    subst hP hw hK
    obtain ⟨xs, x, hq, hx⟩ := hg
    obtain ⟨its, rv, p, _⟩ := I.tuple hq
    obtain ⟨u, hu, ru⟩ := rv.get hx
    have pt : s.heap.IsTuple a its.toArray := p
    have hlt := (List.getElem?_eq_some_iff.mp hu).1
    have hh : X.A.in1.handled = none := I.ok.hd hc
    have dr := Draws.tuple (prog := X.prog) (w := X.w) hh it a hn its.toArray
    refine ⟨_, _, _, dr, ⟨t, pt⟩, by simpa using hlt, fun j h' z => z.1, fun v hv => ⟨x, ?_, rfl, fun ys hy => by rw [I.tuple_inj hy hq]; exact hx⟩⟩
    have : its[i]? = some v := by simpa using hv
    rw [hu] at this
    rw [← Option.some.inj this]
    exact ru
  stop := by
    intro X hP hw hK hc i pins s σ H I t hg
    subst hP hw hK
    obtain ⟨xs, hq, hx⟩ := hg
    obtain ⟨its, rv, p, _⟩ := I.tuple hq
    have hl := rv.length
    have pt : s.heap.IsTuple a its.toArray := p
    refine ⟨_, _, draws_end (T := fun h => h.IsTupleIter it a i ∧ h.IsTuple a its.toArray) i (fun h z => let ⟨o, q, _⟩ := z.1; ⟨o, q⟩) (fun h h' z k => ⟨z.1.at fun o q => k it (by simp) o q, z.2.at fun o q => k a (by simp) o q⟩) fun s Q E z hE => ?_, rfl, t, pt⟩
    exact wpAny_nextOf_tuple_end (A := X.A.in1) (I.ok.hd hc) z.1 z.2 (by simp; omega) hE
theorem src_list {P : Program} {w : World} {K : Frag} {a it : Addr} (hn : a ≠ it) : Src P w K (Itl K a) it [a] (fun i h => h.IsListIter it a i) where
  obj := fun i h ⟨o, e, _, d⟩ => ⟨o, e, fun v q => by rw [d] at q; cases q⟩
  keep := fun i h h' t k => t.at k
  go := by
    intro X hP hw hK hc i pins s σ H I t hg
    subst hP hw hK
    obtain ⟨xs, x, hq, hx⟩ := hg
    obtain ⟨its, rv, p, _⟩ := I.list hq
    obtain ⟨u, hu, ru⟩ := rv.get hx
    have hlt := (List.getElem?_eq_some_iff.mp hu).1
    have hh : X.A.in1.handled = none := I.ok.hd hc
    have dr := Draws.list (prog := X.prog) (w := X.w) hh it a hn its.toArray
    refine ⟨_, _, _, dr, ⟨t, p.isList⟩, by simpa using hlt, fun j h' z => z.1, fun v hv => ⟨x, ?_, rfl, fun ys hy => by rw [I.list_inj hy hq]; exact hx⟩⟩
    have : its[i]? = some v := by simpa using hv
    rw [hu] at this
    rw [← Option.some.inj this]
    exact ru
  stop := by
    intro X hP hw hK hc i pins s σ H I t hg
    subst hP hw hK
    obtain ⟨xs, hq, hx⟩ := hg
    obtain ⟨its, rv, p, _⟩ := I.list hq
    have hl := rv.length
    refine ⟨_, _, draws_end (T := fun h => h.IsListIter it a i ∧ h.IsList a its.toArray) i (fun h z => let ⟨o, q, _⟩ := z.1; ⟨o, q⟩) (fun h h' z k => ⟨z.1.at fun o q => k it (by simp) o q, z.2.at fun o q => k a (by simp) o q⟩) fun s Q E z hE => ?_, rfl, t, p.isList⟩
    exact wpAny_nextOf_list_end (A := X.A.in1) (I.ok.hd hc) z.1 z.2 (by simp; omega) hE
theorem text_end {P : Program} {w : World} {A : Around} (hh : A.handled = none) (it : Addr) (x : Str) (t : Tok) {i : Nat} (hi : x.cps.size ≤ i) (s : Shared) (Q : Value → Shared → Prop) (E : Value → Shared → Prop) (z : s.heap.IsStrIter it (strIterType x) x t i)
    (hE : ∀ h' e, Heap.ExtBut it s.heap h' → (∃ o, h'.get? e = some o ∧ o.cls = .type "StopIteration") → E (.ref e) { s with heap := h' }) : wpAny (model P w) A (Builtin.SmallTypes.nextOf (.ref it)) Q E s := by
  have hx : x.cps[i]? = none := by simp [hi]
  unfold strIterType at z
  split at z
  · exact wpAny_nextOf_ascii_end hh z hx hE
  · exact wpAny_nextOf_wide_end hh z hx hE
theorem src_text {P : Program} {w : World} {K : Frag} {it : Addr} (x : Str) (t : Tok) : Src P w K (Its x) it [] (fun i h => h.IsStrIter it (strIterType x) x t i) where
  obj := fun i h ⟨o, e, _, d⟩ => ⟨o, e, fun v q => by rw [d] at q; cases q⟩
  keep := fun i h h' ⟨o, e, r⟩ k => ⟨o, k o e, r⟩
  go := by
    intro X hP hw hK hc i pins s σ H I z hg
    subst hP hw hK
    have hg : i < x.cps.size := hg
    have hh : X.A.in1.handled = none := I.ok.hd hc
    have dr := Draws.text (prog := X.prog) (w := X.w) hh it x t
    exact ⟨_, _, _, dr, z, hg, fun j h' q => q, fun v ⟨c, u, h1, h2⟩ => ⟨.str ⟨#[c]⟩, ⟨u, h2⟩, rfl, c, h1, rfl⟩⟩
  stop := by
    intro X hP hw hK hc i pins s σ H I z hg
    subst hP hw hK
    refine ⟨_, _, draws_end (T := fun h => h.IsStrIter it (strIterType x) x t i) i (fun h ⟨o, q, _⟩ => ⟨o, q⟩) (fun h h' ⟨o, e, r⟩ k => ⟨o, k it (by simp) o e, r⟩) fun s Q E q hE => ?_, rfl, z⟩
    exact text_end (A := X.A.in1) (I.ok.hd hc) it x t hg s Q E q hE
section
variable {X : Cx} {pins : List (Addr × Obj)} {s : Shared} {σ : L2.St} {H : Hp}
theorem sour_tuple {a : Addr} {xs : List V} (I : Inv X pins σ H s) (h : SqT X.K H a xs) : Sour X s (.ref a) (Itt X.K a) := by
  obtain ⟨its, rv, p, _⟩ := I.tuple h
  have pt : s.heap.IsTuple a its.toArray := p
  obtain ⟨o, e, _⟩ := p
  exact ⟨_, _, [a], fun it i h => h.IsTupleIter it a i, begins_tuple a its.toArray, pt, fun b hb => by simp at hb; rw [hb]; exact Heap.lt_size e, fun it h q => ⟨_, q, rfl, rfl⟩, fun it hn => src_tuple fun z => hn (by simp [z])⟩
theorem sour_list {a : Addr} {xs : List V} (I : Inv X pins σ H s) (h : SqL X.K H a xs) : Sour X s (.ref a) (Itl X.K a) := by
  obtain ⟨its, rv, p, _⟩ := I.list h
  obtain ⟨o, n, e, _⟩ := id p
  exact ⟨_, _, [a], fun it i h => h.IsListIter it a i, begins_list a its.toArray, p.isList, fun b hb => by simp at hb; rw [hb]; exact Heap.lt_size e, fun it h q => ⟨_, q, rfl, rfl⟩, fun it hn => src_list fun z => hn (by simp [z])⟩
theorem sour_text {x : Str} {t : Tok} : Sour X s (.str x t) (Its x) :=
  ⟨_, _, [], fun it i h => h.IsStrIter it (strIterType x) x t i, begins_text x t, trivial, fun b hb => by simp at hb, fun it h q => ⟨_, q, rfl, rfl⟩, fun it _ => src_text x t⟩
end
end Ds
namespace Ds
open PySem PySem.Spec PyProof.Rows L2 Dn
/-- pairs of two -/
def ItZ (J1 J2 : It) : It := ⟨fun i H => J1.go i H ∧ J2.go i H, fun i H v H' => ∃ T x y, v = .ref T ∧ H T = none ∧ H' = upd H T (.tup [x, y]) ∧ J1.yld i H x H ∧ J2.yld i H y H,
  fun i H => (J1.stop i H ∧ (J2.go i H ∨ J2.stop i H)) ∨ (J1.go i H ∧ J2.stop i H)⟩
theorem turn_zipS {P : Program} {w : World} {K : Frag} {elts : List Expr} {kk : Nat} {tpos : Pos} {J1 J2 : It} {z TI TO i1 i2 : Addr} {bs1 bs2 : List Addr} {own1 own2 : Nat → Heap → Prop} (S1 : Src P w K J1 i1 bs1 own1) (S2 : Src P w K J2 i2 bs2 own2) (Z : ZipSep2 z TI TO i1 i2 (i1 :: bs1) (i2 :: bs2)) :
    Turn P w K (.Tuple elts kk tpos) (ItZ J1 J2) [z, TI, TO, i1, i2] z (fun i h => IsZip h z TI TO .none ∧ IsTupOf2 h TI (.ref i1) (.ref i2) ∧ (∃ a1 a2, IsTupOf2 h TO a1 a2) ∧ own1 i h ∧ own2 i h) where
  mem := by simp
  obj := fun i h ⟨hz, hI, ⟨a1, a2, hO⟩, o1, o2⟩ c hm => by
    have e' : c = z ∨ c = TI ∨ c = TO ∨ c = i1 ∨ c = i2 := by simpa using hm
    rcases e' with q | q | q | q | q
    · rw [q]; exact ⟨_, hz, fun v y => nomatch y⟩
    · rw [q]; exact ⟨_, hI, fun v y => nomatch y⟩
    · rw [q]; exact ⟨_, hO, fun v y => nomatch y⟩
    · rw [q]; exact S1.obj i h o1
    · rw [q]; exact S2.obj i h o2
  keep := fun i h h' ⟨hz, hI, ⟨a1, a2, hO⟩, o1, o2⟩ k => ⟨k z (by simp) _ hz, k TI (by simp) _ hI, ⟨a1, a2, k TO (by simp) _ hO⟩, S1.keep i h h' o1 fun o q => k i1 (by simp) o q, S2.keep i h h' o2 fun o q => k i2 (by simp) o q⟩
  item := by
    intro X hP hw hK hc i pins s σ H E I hf ⟨hz, hI, ⟨a1, a2, hO⟩, o1, o2⟩ ⟨g1, g2⟩
    obtain ⟨n1, Pv1, T1, D1, t1, l1, b1, y1⟩ := S1.go X hP hw hK hc i pins s σ H I o1 g1
    obtain ⟨n2, Pv2, T2, D2, t2, l2, b2, y2⟩ := S2.go X hP hw hK hc i pins s σ H I o2 g2
    have zl : z < s.heap.objs.size := Heap.lt_size hz
    refine wpAny_pyNext_zipD2_item Z D1 D2 hz hI hO t1 t2 l1 l2 fun u1 u2 h1 tk p1 p2 hz1 hO1 r1 r2 new1 sz1 k1 => ⟨_, rfl, ?_⟩
    obtain ⟨x1, rx1, yx1⟩ := y1 u1 p1
    obtain ⟨x2, rx2, yx2⟩ := y2 u2 p2
    refine wpAny_letOwnedTupleGo_zip (s := { s with heap := h1, toks := tk }) hz1 fun h2 hz2 sb => ?_
    have new2 : h2.get? s.heap.objs.size = some { cls := .type "tuple", data := .seq #[u1, u2] } := (sb.2 _ (Nat.ne_of_gt zl)).trans new1
    have ok : ObjOk X.prog X.w (upd H s.heap.objs.size (.tup [x1, x2])) h2 s.heap.objs.size (.tup [x1, x2]) :=
      ⟨Nat.le_of_ble_eq_true rfl, [u1, u2], .cons rx1 (.cons rx2 .nil), ⟨_, new2, rfl, _, rfl⟩⟩
    have I1 : Inv X pins σ (upd H s.heap.objs.size (.tup [x1, x2])) { s with heap := h2, toks := tk } := by
      refine I.turnedNew (ch := [z, TI, TO, i1, i2]) (fun b ob hm q => ?_) hf (Nat.le_refl _) ok
      have c1 : b ≠ z := fun y => hm (by simp [y])
      have c2 : b ≠ TO := fun y => hm (by simp [y])
      have c3 : b ≠ i1 := fun y => hm (by simp [y])
      have c4 : b ≠ i2 := fun y => hm (by simp [y])
      exact (sb.2 b c1).trans (k1 b ob c1 c2 c3 c4 q)
    have zi1 : z ≠ i1 := fun y => Z.zf1 (by simp [y])
    have zi2 : z ≠ i2 := fun y => Z.zf2 (by simp [y])
    refine ⟨.ref s.heap.objs.size, _, I1, rfl, ⟨_, x1, x2, rfl, I.hok.fresh (Nat.le_refl _), rfl, yx1, yx2⟩, ⟨hz2, ?_, ⟨u1, u2, ?_⟩, ?_, ?_⟩, fun c hm => ?_⟩
    · exact (sb.2 _ Z.TIz).trans (k1 _ _ Z.TIz Z.TITO Z.TIi1 Z.TIi2 hI)
    · exact (sb.2 _ Z.TOz).trans hO1
    · exact S1.keep _ _ _ (b1 _ _ r1) fun o q => (sb.2 i1 zi1.symm).trans q
    · exact S2.keep _ _ _ (b2 _ _ r2) fun o q => (sb.2 i2 zi2.symm).trans q
    · have cl : c < s.heap.objs.size := by
        have e' : c = z ∨ c = TI ∨ c = TO ∨ c = i1 ∨ c = i2 := by simpa using hm
        rcases e' with q | q | q | q | q
        · rw [q]; exact zl
        · rw [q]; exact Heap.lt_size hI
        · rw [q]; exact Heap.lt_size hO
        · rw [q]; obtain ⟨_, y, _⟩ := S1.obj _ _ o1; exact Heap.lt_size y
        · rw [q]; obtain ⟨_, y, _⟩ := S2.obj _ _ o2; exact Heap.lt_size y
      rw [upd_ne (Nat.ne_of_lt cl)]
      exact (hf c hm).1
  done := by
    intro X hP hw hK hc i pins s σ H E I hf ⟨hz, hI, ⟨a1, a2, hO⟩, o1, o2⟩ hg
    have fin : ∀ {n1 n2 : Nat} {Pv1 Pv2 : Nat → Value → Prop} {T1 T2 : Nat → Heap → Prop}, Draws P w X.A.in1 i1 (i1 :: bs1) n1 Pv1 T1 → Draws P w X.A.in1 i2 (i2 :: bs2) n2 Pv2 T2 → T1 i s.heap → T2 i s.heap → i ≤ n1 → i ≤ n2 → (i = n1 ∨ i = n2) →
        wpAny (model P w) X.A (pyNext (.ref z)) (fun r s1 => r = none ∧ Inv X pins σ H s1) E s := fun D1 D2 t1 t2 l1 l2 he =>
      wpAny_pyNext_zipD2_end Z D1 D2 hz hI hO t1 t2 l1 l2 he fun h1 tk k1 => ⟨rfl, I.turnedL (ch := [z, TI, TO, i1, i2]) (fun b o hm q =>
        k1 b o (fun y => hm (by simp [y])) (fun y => hm (by simp [y])) (fun y => hm (by simp [y])) (fun y => hm (by simp [y])) q) hf⟩
    rcases hg with ⟨q1, q2 | q2⟩ | ⟨q1, q2⟩
    · obtain ⟨Pv1, T1, D1, t1⟩ := S1.stop X hP hw hK hc i pins s σ H I o1 q1
      obtain ⟨n2, Pv2, T2, D2, t2, l2, _⟩ := S2.go X hP hw hK hc i pins s σ H I o2 q2
      exact fin D1 D2 t1 t2 (Nat.le_refl _) (Nat.le_of_lt l2) (.inl rfl)
    · obtain ⟨Pv1, T1, D1, t1⟩ := S1.stop X hP hw hK hc i pins s σ H I o1 q1
      obtain ⟨Pv2, T2, D2, t2⟩ := S2.stop X hP hw hK hc i pins s σ H I o2 q2
      exact fin D1 D2 t1 t2 (Nat.le_refl _) (Nat.le_refl _) (.inl rfl)
    · obtain ⟨n1, Pv1, T1, D1, t1, l1, _⟩ := S1.go X hP hw hK hc i pins s σ H I o1 q1
      obtain ⟨Pv2, T2, D2, t2⟩ := S2.stop X hP hw hK hc i pins s σ H I o2 q2
      exact fin D1 D2 t1 t2 (Nat.le_of_lt l1) (Nat.le_refl _) (.inr rfl)
  self := fun A i s Q E st h => wpAny_pyIter_zip st.1 h
/-- a list, a tuple, a text, and how it is walked -/
def SrcV (K : Frag) (H : Hp) (x : V) (J : It) : Prop := (∃ a xs, x = .ref a ∧ SqT K H a xs ∧ J = Itt K a) ∨ (∃ a xs, x = .ref a ∧ SqL K H a xs ∧ J = Itl K a) ∨ ∃ z, x = .str z ∧ J = Its z
section
variable {X : Cx}
theorem SrcV.sour {pins : List (Addr × Obj)} {s : Shared} {σ : L2.St} {H : Hp} {x : V} {u : Value} {J : It} (h : SrcV X.K H x J) (I : Inv X pins σ H s) (r : RelV x u) : Sour X s u J := by
  rcases h with ⟨a, xs, rfl, q, rfl⟩ | ⟨a, xs, rfl, q, rfl⟩ | ⟨z, rfl, rfl⟩
  · obtain rfl : u = .ref a := r
    exact sour_tuple I q
  · obtain rfl : u = .ref a := r
    exact sour_list I q
  · obtain ⟨t, rfl⟩ := r
    exact sour_text
def iZpS (K : Frag) (ta : TA) : TI := fun σ H R => ta σ H fun vs H1 => ∃ x y J1 J2, vs = [x, y] ∧ SrcV K H1 x J1 ∧ SrcV K H1 y J2 ∧ R (ItZ J1 J2) H1
theorem pi_zpS {e e2 : Expr} {ta : TA} {p pos tpos : Pos} {elts : List Expr} {kk : Nat} (hg : Gl X "zip") (hm : X.mg "zip" = none) (ha : PA X [e, e2] ta)
    (hs : starEach [e, e2] X.env = (false, eval e X.env) :: starEach [e2] X.env := by rfl) (hp : (backTo pos (starEach [e2] X.env)).any (·.1) = false := by rfl) :
    PI X (.Tuple elts kk tpos) (.Call (.Name "zip" p) [e, e2] [] pos) (iZpS X.K ta) := by
  constructor
  intro pins s σ H R I h
  refine Call_ (ld_blt I hg hm boot_zip (PyProof.Rows.callWith_type1 (thn (ha.run pos pins s σ H _ I h) ?_) hs hp))
  rintro us s1 ⟨vs, H1, I1, r1, x, y, J1, J2, ex, hv1, hv2, q⟩
  subst ex
  cases r1 with
  | cons r rr =>
    cases rr with
    | cons r2 rr =>
    cases rr
    obtain ⟨o1, Hh1, bs1, own1, B1, b1, lo1, oo1, S1⟩ := hv1.sour I1 r
    obtain ⟨o2, Hh2, bs2, own2, B2, b2, lo2, oo2, S2⟩ := hv2.sour I1 r2
    refine zip_begins2 B1 B2 b1 b2 fun h1 hz hI hO g1 g2 sz k1 => wpAny_pyIter_zip hz ?_
    have I2 : Inv X pins σ H1 { s1 with heap := h1 } := I1.kept (t' := s1.toks) k1
    have n1 : s1.heap.objs.size ∉ bs1 := fun hm => absurd (lo1 _ hm) (Nat.lt_irrefl _)
    have n2 : s1.heap.objs.size + 1 ∉ bs2 := fun hm => Nat.not_succ_lt_self (lo2 _ hm)
    refine ⟨s1.heap.objs.size + 4, [s1.heap.objs.size + 4, s1.heap.objs.size + 2, s1.heap.objs.size + 3, s1.heap.objs.size, s1.heap.objs.size + 1], _, _, H1, rfl, I2, turn_zipS (S1 _ n1) (S2 _ n2) (zip_sep2 lo1 lo2), ⟨hz, hI, ⟨_, _, hO⟩, oo1 _ _ g1, oo2 _ _ g2⟩, fun b hb => ?_, q⟩
    have le : s1.heap.objs.size ≤ b := by
      simp at hb
      rcases hb with z | z | z | z | z <;> rw [z] <;> first | exact Nat.le_add_right _ _ | exact Nat.le_refl _
    exact I1.fpOk le (I1.hok.fresh le)
end
end Ds
namespace Ds
open PySem PySem.Spec PyProof.Rows L2 Dn
def enumD (ds : List D) : List D := ds.zipIdx.map fun p => .tuple [.int (p.2 : Nat), p.1]
def zipD (ds es : List D) : List D := List.zipWith (fun d e => .tuple [d, e]) ds es
/-- walking changes nothing -/
def Still (J : It) : Prop := ∀ i H x H', J.yld i H x H' → H' = H
theorem still_tup {K : Frag} {a : Addr} : Still (Itt K a) := fun _ _ _ _ h => h.1
theorem still_lst {K : Frag} {a : Addr} : Still (Itl K a) := fun _ _ _ _ h => h.1
theorem still_str {z : Str} : Still (Its z) := fun _ _ _ _ h => h.1
theorem it_zip {K : Frag} {Hs : Hp} {J1 J2 : It} {ds es : List D} (a : Dn.ItOk K Hs J1 ds) (b : Dn.ItOk K Hs J2 es) (st1 : Still J1) : Dn.ItOk K Hs (ItZ J1 J2) (zipD ds es) := fun Hs1 H1 e1 e2 i => by
  obtain ⟨a1, a2⟩ := a Hs1 H1 e1 e2 i
  obtain ⟨b1, b2⟩ := b Hs1 H1 e1 e2 i
  unfold zipD
  rw [List.getElem?_zipWith]
  cases q1 : ds[i]? with
  | none =>
    refine ⟨fun d hd => (nomatch hd), fun _ => .inl ⟨a2 q1, ?_⟩⟩
    cases q2 : es[i]? with
    | none => exact .inr (b2 q2)
    | some e => exact .inl (b1 e q2).1
  | some d =>
    cases q2 : es[i]? with
    | none => exact ⟨fun d hd => (nomatch hd), fun _ => .inr ⟨(a1 d q1).1, b2 q2⟩⟩
    | some e =>
      obtain ⟨g1, g2⟩ := a1 d q1
      refine ⟨fun d' hd => ?_, fun hn => (nomatch hn)⟩
      obtain rfl := Option.some.inj hd
      refine ⟨⟨g1, (b1 e q2).1⟩, fun x H2 ⟨T, y1, y2, ex, hT, eH, l1, l2⟩ => ?_⟩
      subst ex; subst eH
      obtain ⟨Hs2, gr, rp⟩ := g2 y1 H1 l1
      obtain ⟨_, k2⟩ := (b Hs2 H1 (e1.trans gr.s) gr.i i).1 e q2
      obtain ⟨Hs3, gr3, rp3⟩ := k2 y2 H1 l2
      have nw := Gr.new (o := .tup [y1, y2]) gr3.i hT
      exact ⟨_, (gr.trans gr3).trans nw, .tup (StT.of upd_same) (.cons ((rp.ex gr3.s).ex nw.s) (.cons (rp3.ex nw.s) .nil))⟩
/-- a datum and how it is walked -/
theorem src_of {K : Frag} {Hs H : Hp} {v : V} {d : D} {ds : List D} (r : Rp K Hs v d) (h : dItems d = some ds) (e : Ex Hs H) : ∃ J, SrcV K H v J ∧ Dn.ItOk K Hs J ds ∧ Still J := by
  cases r with
  | lst q t =>
    obtain rfl := Option.some.inj h
    exact ⟨_, .inr (.inl ⟨_, _, rfl, sqL_ex e q, rfl⟩), it_list q t, still_lst⟩
  | tup q t =>
    obtain rfl := Option.some.inj h
    exact ⟨_, .inl ⟨_, _, rfl, sqT_ex e q, rfl⟩, it_tup q t, still_tup⟩
  | str z =>
    obtain rfl := Option.some.inj h
    exact ⟨_, .inr (.inr ⟨z, rfl, rfl⟩), it_str, still_str⟩
  | _ => simp [dItems] at h
section
variable {X : Cx} {E : XQ} {tg e : Expr} {pos : Pos} {m : M D}
def mEnum (m : M D) : M (List D) := mBind m fun d => mOpt ((dItems d).map enumD)
def mZip (ma mb : M D) : M (List D) := mBind ma fun d => mBind mb fun e => mOpt ((dItems d).bind fun ds => (dItems e).map (zipD ds))
theorem ji_zip {a b : Expr} {ma mb : M D} {p tpos : Pos} {elts : List Expr} {kk : Nat} (hg : Gl X "zip") (hm : X.mg "zip" = none) (ha : PE X a (tOf X.K E ma)) (hb : PE X b (tOf X.K E mb))
    (hs : starEach [a, b] X.env = [(false, eval a X.env), (false, eval b X.env)] := by rfl) (hs2 : starEach [b] X.env = [(false, eval b X.env)] := by rfl) :
    PI X (.Tuple elts kk tpos) (.Call (.Name "zip" p) [a, b] [] pos) (tOfI X.K E (mZip ma mb)) :=
  pi_imp (pi_zpS hg hm (pa_cons ha (pa_cons hb pa_nil hs2) (by rw [hs, hs2])) (by rw [hs, hs2]) (by rw [hs2]; rfl)) fun σ H R ⟨G, g, δ, re, po⟩ => tOf.step re po fun v d g1 H1 δ1 e1 re1 r1 po1 => tOf.step re1 po1 fun w c g2 H2 δ2 e2 re2 r2 po2 => by
    obtain ⟨ds, hd, po3⟩ := Post.opt po2
    obtain ⟨ds1, h1, hd⟩ := Option.bind_eq_some_iff.mp hd
    obtain ⟨ds2, h2, rfl⟩ := Option.map_eq_some_iff.mp hd
    obtain ⟨J1, hv1, ok1, st1⟩ := src_of (r1.ex e2.h) h1 re2.ex
    obtain ⟨J2, hv2, ok2, _⟩ := src_of r2 h2 re2.ex
    exact ⟨v, w, J1, J2, rfl, hv1, hv2, Post.of po3 re2 _ (.of (it_zip ok1 ok2 st1))⟩
/-- lo, lo + c, .. -/
def stepD (lo c : Int) (n : Nat) : List D := (List.range n).map fun (k : Nat) => PyData.int (lo + (k : Nat) * c)
def okStep (i j c : Int) : Bool := decide (c ≠ 0) && (decide (c.natAbs < 1073741824) && (Builtin.Range.small i j c && decide (0 ≤ Builtin.Range.rangeSize i j c)))
def bRng3 : D → D → D → Option (List D)
  | .int i, .int j, .int c => if okStep i j c = true then some (stepD i c (Builtin.Range.rangeSize i j c).toNat) else none
  | _, _, _ => none
def mRng3 (ma mb mc : M D) : M (List D) := mBind ma fun d => mBind mb fun e => mBind mc fun c => mOpt (bRng3 d e c)
def mWhile (t : M Bool) (mb : M Fl) : Nat → M Fl
  | 0 => fun _ => .bad
  | k + 1 => fun δ => match t δ with
    | .ok true δ1 => (match mb δ1 with
      | .ok .nx δ2 => mWhile t mb k δ2
      | .ok .ct δ2 => mWhile t mb k δ2
      | .ok .bk δ2 => .ok .nx δ2
      | .ok (.rt c) δ2 => .ok (.rt c) δ2
      | .exc x δ2 => .exc x δ2
      | .bad => .bad)
    | .ok false δ1 => .ok .nx δ1
    | .exc x δ1 => .exc x δ1
    | .bad => .bad
theorem js_while {c : Expr} {body : List Stmt} {t : M Bool} {mb : M Fl} (k : Nat) (hp : PassesOwn (model X.prog X.w) X.A X.env X.xe) (hc : PT X c (tOfT X.K E t)) (hb : PSs X body (tOfS X.K E mb)) : PS X (.While c body [] pos) (tOfS X.K E (mWhile t mb k)) :=
  pst_imp (ps_while hp hc hb) fun B σ H ⟨G, g, δ, re, po⟩ => by
    refine ⟨fun n σ' H' => ∃ g' δ', Le g g' ∧ RE X.K G g' H' σ' δ' ∧ PostF X.K E G g' (mWhile t mb n δ') B, ⟨k, g, δ, Le.refl _, re, po⟩, ?_⟩
    rintro n σ1 H1 ⟨g1, δ1, e1, re1, po1⟩
    cases n with
    | zero => exact po1.elim
    | succ n =>
      unfold mWhile at po1
      refine ⟨G, g1, δ1, re1, ?_⟩
      cases q : t δ1 with
      | bad => rw [q] at po1; exact po1
      | exc x δ2 => rw [q] at po1; exact fun g2 H2 e2 re2 => po1 σ1 g2 H2 e2 re2
      | ok b δ2 =>
        rw [q] at po1
        intro g2 H2 e2 re2
        cases b with
        | false =>
          rw [if_neg (by decide)]
          exact po1 σ1 g2 H2 e2 re2
        | true =>
          rw [if_pos rfl]
          dsimp only at po1
          refine ⟨fun σ3 H3 => ∃ g3 δ3, Le g g3 ∧ RE X.K G g3 H3 σ3 δ3 ∧ PostF X.K E G g3 (mWhile t mb n δ3) B, fun σ3 H3 h => ⟨n, Nat.lt_succ_self n, h⟩, G, g2, δ2, re2, ?_⟩
          have ea := e1.trans e2
          cases z : mb δ2 with
          | ok fl δ3 =>
            rw [z] at po1
            cases fl with
            | nx => exact fun σ5 g5 H5 e5 re5 => ⟨g5, δ3, ea.trans e5, re5, PostS.ex po1 (e2.trans e5)⟩
            | ct => exact fun σ5 g5 H5 e5 re5 => ⟨g5, δ3, ea.trans e5, re5, PostS.ex po1 (e2.trans e5)⟩
            | bk => exact fun σ5 g5 H5 e5 re5 => po1 σ5 g5 H5 (e2.trans e5) re5
            | rt s => exact fun σ5 g5 H5 e5 re5 => po1 σ5 g5 H5 (e2.trans e5) re5
          | exc x δ3 =>
            rw [z] at po1
            exact fun σ5 g5 H5 e5 re5 => po1 σ5 g5 H5 (e2.trans e5) re5
          | bad => rw [z] at po1; exact po1
end
end Ds
namespace Ds
open PySem PySem.Spec PyProof.Rows L2 Dn
inductive KVs (K : Frag) : List DictEntry → List (Str × D) → Prop where
  | nil : KVs K [] []
  | cons {e : DictEntry} {r : List DictEntry} {x : Str} {t : Tok} {v : V} {d : D} {kvs : List (Str × D)} : e.key = .str x t → RelV v e.val → (∀ H, Rp K H v d) → KVs K r kvs → KVs K (e :: r) ((x, d) :: kvs)
def KDv (w : World) (K : Frag) (d : Addr) (kvs : List (Str × D)) : Prop := ∃ es n, KDict K w d es n ∧ KVs K es.toList kvs
def lookS (kvs : List (Str × D)) (z : Str) : Option D := (kvs.find? fun kv => decide (kv.1 = z)).map (·.2)
theorem KVs.find {K : Frag} {es : List DictEntry} {kvs : List (Str × D)} (h : KVs K es kvs) {z : Str} {d : D} (q : lookS kvs z = some d) : ∃ e v, es.find? (·.key.isStr z) = some e ∧ RelV v e.val ∧ ∀ H, Rp K H v d := by
  induction h with
  | nil => cases q
  | @cons e r x t v d0 kvs he hv hr _ ih =>
    have k1 : e.key.isStr z = (x == z) := by rw [he]; rfl
    unfold lookS at q ih
    rw [List.find?_cons] at q ⊢
    by_cases hx : x = z
    · rw [decide_eq_true hx] at q
      obtain rfl : d0 = d := Option.some.inj q
      rw [k1, hx, beq_self_eq_true]
      exact ⟨e, v, rfl, hv, hr⟩
    · rw [decide_eq_false hx] at q
      have : (x == z) = false := by simpa using hx
      rw [k1, this]
      exact ih q
theorem KDv.at_ {w : World} {K : Frag} {a : Addr} {kvs : List (Str × D)} (h : KDv w K a kvs) {z : Str} {d : D} (q : lookS kvs z = some d) : ∃ v, KDct K w a z v ∧ ∀ H, Rp K H v d := by
  obtain ⟨es, n, D, k⟩ := h
  obtain ⟨e, v, h1, h2, h3⟩ := k.find q
  refine ⟨v, ⟨es, n, e.val, D.at_, D.lit, ?_, h2⟩, h3⟩
  unfold PySem.W.nsIn
  rw [D.at_]
  dsimp only
  rw [h1]
section
variable {X : Cx} {E : XQ} {e o : Expr} {pos : Pos} {m : M D} {ml : M Nat}
def mKGet (kvs : List (Str × D)) (m : M D) : M D := mBind m fun e => mOpt ((toS e).bind (lookS kvs))
def keysS : List (Key × Cl) → Option (List Str)
  | [] => some []
  | (.inr x, _) :: r => (keysS r).map (x :: ·)
  | _ => none
def mSortD (ml : M Nat) : M D := mBind ml fun l δ => match δ.s[l]? with
  | some (.dk kvs) => (match keysS kvs with
    | some ks => if ks.length < 64 then .ok (.list ((sortT ks).map PyData.str)) δ else .bad
    | none => .bad)
  | _ => .bad
end
end Ds
namespace Ds
open PySem PySem.Spec PyProof.Rows L2 Dn
def isTI : List Key → Bool
  | .inr _ :: .inl _ :: _ => true
  | [.inr _, .inr _] => true
  | _ => false
def toKs : List D → Option (List Key)
  | [] => some []
  | d :: ds => match toK d, toKs ds with
    | some k, some ks => some (k :: ks)
    | _, _ => none
def toTK : D → Option (List Key)
  | .tuple ds => match toKs ds with
    | some ks => if isTI ks then some ks else none
    | none => none
  | _ => none
def keyD : Key → D
  | .inl i => .int i
  | .inr x => .str x
/-- a dict with tuple keys, locked or not -/
def dtOf : Ob → Option (List (List Key × Cl))
  | .dt kvs => some kvs
  | .ft kvs => some kvs
  | _ => none
def tkAt (s : List Ob) (l : Nat) : Option (List (List Key × Cl)) := (s[l]?).bind dtOf
section
variable {X : Cx} {E : XQ} {a b e o f : Expr} {pos : Pos} {m mk mx : M D} {mc : M Cl} {ml : M Nat} {m1 m2 : M Fl}
/-- d[k] -/
def mTGet (ml : M Nat) (mk : M D) : M Cl := mBind ml fun l => mBind mk fun e δ => match tkAt δ.s l, toTK e with
  | some kvs, some k => match valC kvs k with
    | some c => .ok c δ
    | none => .bad
  | _, _ => .bad
def isDt (l : Nat) : M Nat := fun δ => match tkAt δ.s l with
  | some _ => .ok l δ
  | _ => .bad
/-- d.get(k, x) -/
def mTGet2 (ml : M Nat) (mk : M D) (mc : M Cl) : M Cl := mBind ml fun l => mBind (isDt l) fun l => mBind mk fun e => mBind mc fun z δ => match tkAt δ.s l, toTK e with
  | some kvs, some k => .ok ((valC kvs k).getD z) δ
  | _, _ => .bad
/-- d[k] = x -/
def mTPut (ml : M Nat) (mk : M D) (mc : M Cl) : M Fl := mBind mc fun c => mBind ml fun l => mBind mk fun e δ => match δ.s[l]?, toTK e with
  | some (.dt kvs), some k => if kvs.length < sizeLine then .ok .nx ⟨δ.e, δ.s.set l (.dt (putC kvs k c))⟩ else .bad
  | _, _ => .bad
/-- k in d, k not in d -/
def mTIn (neg : Bool) (mk : M D) (ml : M Nat) : M D := mBind mk fun e => mBind ml fun l δ => match tkAt δ.s l, toTK e with
  | some kvs, some k => .ok (.bool (if neg then !(valC kvs k).isSome else (valC kvs k).isSome)) δ
  | _, _ => .bad
/-- {} -/
def mTNew : M Nat := mAll (.dt [])
end
end Ds
namespace Ds
open PySem PySem.Spec PyProof.Rows L2 Dn
theorem clsA_of {K : Frag} {c : Str} {C : Addr} (h : PySem.W.nsIn K mainGlobals c = some (some (.ref C))) : clsA K c = some C := by
  unfold clsA
  rw [h]
def putFC (f : Str) (c : Cl) : List (Str × Cl) → List (Str × Cl)
  | [] => [(f, c)]
  | (g, x) :: r => if g = f then (g, c) :: r else (g, x) :: putFC f c r
section
variable {K : Frag} {g : Gh}
theorem KR.look {vs : List (Str × V)} {cs : List (Str × Cl)} (r : KR K g vs cs) (f : Str) : (cs.lookup f = none ∧ vs.lookup f = none) ∨ ∃ v c, cs.lookup f = Option.some c ∧ vs.lookup f = Option.some v ∧ CR K g v c := by
  induction r with
  | nil => exact .inl ⟨rfl, rfl⟩
  | @cons p q ps qs h t ih =>
    obtain ⟨p1, p2⟩ := p
    obtain ⟨q1, q2⟩ := q
    obtain ⟨h1, h2⟩ := h
    dsimp only at h1 h2
    subst h1
    by_cases e : f = p1
    · subst e
      refine .inr ⟨p2, q2, ?_, ?_, h2⟩
      · simp [List.lookup]
      · simp [List.lookup]
    · have b : (f == p1) = false := by simpa using e
      have e1 : List.lookup f ((p1, q2) :: qs) = List.lookup f qs := by simp only [List.lookup, b]
      have e2 : List.lookup f ((p1, p2) :: ps) = List.lookup f ps := by simp only [List.lookup, b]
      rw [e1, e2]
      exact ih
theorem KR.putF {vs : List (Str × V)} {cs : List (Str × Cl)} (r : KR K g vs cs) (f : Str) {v : V} {c : Cl} (h : CR K g v c) : KR K g (L2.putF f v vs) (putFC f c cs) := by
  induction r with
  | nil => exact .cons ⟨rfl, h⟩ .nil
  | @cons p q ps qs h' t ih =>
    obtain ⟨p1, p2⟩ := p
    obtain ⟨q1, q2⟩ := q
    obtain ⟨h1, h2⟩ := h'
    dsimp only at h1 h2
    subst h1
    unfold L2.putF putFC
    by_cases e : p1 = f
    · rw [if_pos e, if_pos e]; exact .cons ⟨rfl, h⟩ t
    · rw [if_neg e, if_neg e]; exact .cons ⟨rfl, h2⟩ ih
theorem RE.insAt {G : Hp} {H : Hp} {σ : L2.St} {δ : Sx} (r : RE K G g H σ δ) {l : Nat} {a C : Addr} {c : Str} {fs : List (Str × Cl)} (hC : clsA K c = some C) (h : g.r[l]? = some a) (hx : δ.s[l]? = some (.ins c fs)) : ∃ dx vs, H a = some (.ins C dx vs) ∧ KR K g vs fs := by
  obtain ⟨b, u, h1, h2, h3, h4⟩ := r.ob l _ hx rfl
  rw [h] at h1
  cases h1
  cases h3 with
  | ins hc h3 =>
    rw [hC] at hc
    cases hc
    exact ⟨_, _, h2, h3⟩
end
section
variable {X : Cx} {E : XQ} {a b e o : Expr} {pos : Pos} {mc : M Cl} {ml : M Nat} {c f : Str} {C : Addr}
/-- o.f -/
def mFld (c : Str) (ml : M Nat) (f : Str) : M Cl := mBind ml fun l δ => match δ.s[l]? with
  | some (.ins c' fs) => if c' = c then (match fs.lookup f with
    | some x => .ok x δ
    | none => .bad) else .bad
  | _ => .bad
theorem jc_fld (hC : clsA X.K c = some C) (k : Cls X.K C) (n : NoAttr X.K C f) (ho : PE X o (tOfL X.K E ml)) (hb : attributeBase o f X.env (eval o X.env) = eval o X.env := by rfl) : PE X (.Attribute o f pos) (tOfC X.K E (mFld c ml f)) :=
  pe_imp (pe_fld ho hb) fun σ H Q ⟨G, g, δ, re, po⟩ => tOfL.step re po fun q l g1 H1 δ1 e1 re1 r1 po1 => by
    split at po1
    · rename_i c' fs hx
      split at po1
      · rename_i hc
        subst hc
        split at po1
        · rename_i x hf
          obtain ⟨dx, vs, h1, h2⟩ := re1.insAt hC r1 hx
          rcases h2.look f with ⟨z, _⟩ | ⟨v, y, k1, k2, k3⟩
          · rw [z] at hf; cases hf
          · rw [k1] at hf
            cases hf
            exact ⟨q, C, dx, vs, v, rfl, h1, k, n, k2, Post.of po1 re1 v k3⟩
        · exact po1.elim
      · exact po1.elim
    · exact po1.elim
/-- o.f = e -/
def mSetF (c : Str) (ml : M Nat) (f : Str) (mc : M Cl) : M Fl := mBind mc fun x => mBind ml fun l δ => match δ.s[l]? with
  | some (.ins c' fs) => if c' = c ∧ fs.length < 1000 then .ok .nx ⟨δ.e, δ.s.set l (.ins c (putFC f x fs))⟩ else .bad
  | _ => .bad
theorem js_setF {pos' : Pos} {v : Expr} (hC : clsA X.K c = some C) (k : Cls X.K C) (n : NoAttr X.K C f) (ho : PE X o (tOfL X.K E ml)) (hv : PE X v (tOfC X.K E mc)) (hs : swapsWith v (some (.Attribute o f pos')) pos.line X.env = pure false := by rfl) : PS X (.Assign [.Attribute o f pos'] v pos) (tOfS X.K E (mSetF c ml f mc)) :=
  pst_imp (ps_fld ho hv hs) fun B σ H ⟨G, g, δ, re, po⟩ => tOfC.stepS re po fun w x g1 H1 δ1 e1 re1 r1 po1 => tOfL.stepS re1 po1 fun q l g2 H2 δ2 e2 re2 r2 po2 => by
    split at po2
    · rename_i c' fs hx
      split at po2
      · rename_i hc
        obtain ⟨hc, hl⟩ := hc
        subst hc
        obtain ⟨dx, vs, h1, h2⟩ := re2.insAt hC r2 hx
        exact ⟨q, C, dx, vs, rfl, h1, k, n, by rw [h2.length]; exact hl, PostS.of po2 (re2.write hx rfl r2 (.ins hC (h2.putF f (r1.le e2))))⟩
      · exact po2.elim
    · exact po2.elim
theorem evA_len : ∀ (as : List (M Cl)) (δ : Sx) (cs : List Cl) (δ' : Sx), evA as δ = .ok cs δ' → cs.length = as.length := fun as => by
  induction as with
  | nil => intro δ cs δ' h; cases h; rfl
  | cons m as ih =>
    intro δ cs δ' h
    unfold evA mBind at h
    cases q : m δ with
    | ok c δ1 =>
      rw [q] at h
      dsimp only at h
      cases q2 : evA as δ1 with
      | ok cs2 δ2 =>
        rw [q2] at h
        have h : Res.ok (c :: cs2) δ2 = Res.ok cs δ' := h
        injection h with h1 h2
        subst h1
        rw [List.length_cons, List.length_cons, ih _ _ _ q2]
      | exc y δ2 => rw [q2] at h; cases h
      | bad => rw [q2] at h; cases h
    | exc y δ1 => rw [q] at h; cases h
    | bad => rw [q] at h; cases h
/-- o.m(..) -/
def isIns (c m : Str) (l : Nat) : M Nat := fun δ => match δ.s[l]? with
  | some (.ins c' fs) => if c' = c ∧ fs.lookup m = none then .ok l δ else .bad
  | _ => .bad
theorem isIns_ok (c m : Str) (l : Nat) (δ : Sx) : isIns c m l δ = .bad ∨ ∃ fs, δ.s[l]? = some (.ins c fs) ∧ fs.lookup m = none ∧ isIns c m l δ = .ok l δ := by
  unfold isIns
  split
  · rename_i c' fs h
    split
    · rename_i hc
      obtain ⟨rfl, h2⟩ := hc
      exact .inr ⟨fs, h, h2, rfl⟩
    · exact .inl rfl
  · exact .inl rfl
def mMeth (c m : Str) (F : Fn) (ml : M Nat) (as : List (M Cl)) : M Cl := mBind ml fun l => mBind (isIns c m l) fun l => mBind (evA as) fun cs δ => match F (.lo l :: cs) δ.s with
  | .ok x s' => .ok x ⟨δ.e, s'⟩
  | .exc y s' => .bad
  | .bad => .bad
variable {F : Fn} {as : List (M Cl)} {k n : Nat} {fa : Addr} {fd : FuncData} {pr : List Str} {x m : Str} {es : List Expr} {p apos : Pos} {E0 : XK}
theorem meth_read (hC : clsA X.K c = some C) (hn : as.length + 1 = n) {σ : L2.St} {H : Hp} {Q : VK} (h : tOfC X.K E (mMeth c m F ml as) σ H Q) : tMeth C m (spF X.K n F) [] E0 (tOfL X.K E ml) (tOfA X.K E (evA as)) σ H Q := by
  obtain ⟨G, g, δ, re, po⟩ := h
  unfold tMeth
  refine tOfL.step re po fun q l g1 H1 δ1 e1 re1 r1 po1 => ?_
  unfold mBind at po1
  rcases isIns_ok c m l δ1 with h | ⟨fs, hx, hf, h⟩
  · rw [h] at po1; exact po1.elim
  rw [h] at po1
  dsimp only at po1
  obtain ⟨dx, vs, h1, h2⟩ := re1.insAt hC r1 hx
  have hlk : vs.lookup m = none := by
    rcases h2.look m with ⟨_, z⟩ | ⟨v, y, k1, _, _⟩
    · exact z
    · rw [hf] at k1; cases k1
  refine ⟨q, dx, vs, rfl, h1, hlk, ?_⟩
  have po' := po1
  cases qa : evA as δ1 with
  | ok cs0 δ0 =>
    have hl := evA_len _ _ _ _ qa
    rw [qa] at po'
    refine ⟨G, g1, δ1, re1, ?_⟩
    rw [qa]
    intro g2 H2 e2 re2 us r2
    have po2 := Post.ex po' e2
    rw [List.append_nil]
    dsimp only at po2
    refine ⟨by rw [List.length_cons, r2.length, hl, hn], G, g2, .lo l :: cs0, δ0.s, re2.bare, .cons (.lo (e2.r _ _ r1)) r2, ?_⟩
    cases q : F (.lo l :: cs0) δ0.s with
    | ok c s' =>
      rw [q] at po2
      exact fun g' H' e r v rv => po2 g' H' e (re2.lift e r) v rv
    | exc y s' => rw [q] at po2; exact po2.elim
    | bad => rw [q] at po2; exact po2.elim
  | exc y δ0 =>
    rw [qa] at po'
    refine ⟨G, g1, δ1, re1, ?_⟩
    rw [qa]
    exact po'
  | bad => rw [qa] at po'; exact po'.elim
theorem jc_meth0 {pl : Sem Bool} (hC : clsA X.K c = some C) (k0 : Cls X.K C) (hM : Meth X.K C m fa) (G : FnOk X.prog X.w X.K X.mg X.base CX0 k fa fd pr (spF X.K 1 F)) (hr : Room k X.A) (hb : Binds X.K fd pr []) (ho : PE X o (tOfL X.K E ml))
    (ht : eval (.Call (.Attribute o m apos) [] [] pos) X.env = (do
      let ov ← eval o X.env
      standAt apos.atName
      let (f, first) ← holding [ov] (getMethod ov m pl)
      callWith pos f first (backTo pos (starEach [] X.env)) (backToKw pos (keywordEach [] X.env))) := by rfl) : PE X (.Call (.Attribute o m apos) [] [] pos) (tOfC X.K E (mMeth c m F ml [])) :=
  pe_imp (pe_meth0 (pl := pl) ho k0 hM G hr hb .nil pass0 ht) fun σ H Q h => by
    have z := meth_read (E0 := fun _ _ _ => False) hC (n := 1) rfl h
    unfold tMeth at z ⊢
    obtain ⟨G, g, δ, re, po⟩ := z
    refine ⟨G, g, δ, re, po.mono fun l g' H' δ' h a ha => ?_⟩
    obtain ⟨q, dx, fs, h1, h2, h3, h4⟩ := h a ha
    exact ⟨q, dx, fs, h1, h2, h3, nil_read h4⟩
/-- C(..) -/
def mMake (c : Str) (F : Fn) (as : List (M Cl)) : M Nat := mBind (evA as) fun cs δ => match F (.lo δ.s.length :: cs) (δ.s ++ [.ins c []]) with
  | .ok (.sh .none) s' => .ok δ.s.length ⟨δ.e, s'⟩
  | _ => .bad
theorem make_spec {G : Hp} {g1 : Gh} {H1 : Hp} {σ : L2.St} {δ1 : Sx} {cs : List Cl} {vs : List V} {Q : VK} (hC : clsA X.K c = some C) (hn : cs.length + 1 = n) (re1 : RE X.K G g1 H1 σ δ1) (r1 : All2 (CR X.K g1) vs cs) (po : Post X.K E G g1 σ (match F (.lo δ1.s.length :: cs) (δ1.s ++ [.ins c []]) with
  | .ok (.sh .none) s' => .ok δ1.s.length ⟨δ1.e, s'⟩
  | _ => (.bad : Res Nat)) fun l g' H' _ => ∀ a, g'.r[l]? = some a → Q (.ref a) H') : ∀ x dx, H1 x = none → H1 dx = none → dx ≠ x → spF X.K n F (.ref x :: (vs ++ [])) (upd (upd H1 dx (.own x)) x (.ins C dx [])) (fun v H2 => v = .non ∧ Q (.ref x) H2) E0 := by
  intro x dx hx hdx hne
  have ra := re1.newH (ex_new (o := .own x) hdx)
  have hx2 : upd H1 dx (.own x) x = none := by rw [upd_ne (Ne.symm hne)]; exact hx
  have rb := ra.newH (ex_new (o := .ins C dx []) hx2)
  have fr : Fro X.K G g1 (upd (upd H1 dx (.own x)) x (.ins C dx [])) x (.ins c []) := Fro.new ra hx2 (.ins hC .nil)
  obtain ⟨le, rc⟩ := rb.alloc fr
  have hlx : (g1.r ++ [x])[δ1.s.length]? = some x := by
    have hl : g1.r.length = δ1.s.length := re1.rl
    rw [← hl, List.getElem?_append_right (Nat.le_refl _), Nat.sub_self]
    rfl
  rw [List.append_nil]
  refine ⟨by rw [List.length_cons, r1.length, hn], G, ⟨g1.r ++ [x], g1.h⟩, .lo δ1.s.length :: cs, δ1.s ++ [.ins c []], rc.bare, .cons (.lo hlx) (CRs.le le r1), ?_⟩
  cases q : F (.lo δ1.s.length :: cs) (δ1.s ++ [.ins c []]) with
  | ok y s' =>
    rw [q] at po
    cases y with
    | sh d =>
      cases d with
      | none =>
        intro g' H' e r v rv
        refine ⟨?_, ?_⟩
        · cases rv with
          | sh h => cases h; rfl
        · exact po g' H' (le.trans e) (re1.lift (le.trans e) r) x (e.r _ _ hlx)
      | _ => exact po.elim
    | _ => exact po.elim
  | exc y s' => rw [q] at po; exact po.elim
  | bad => rw [q] at po; exact po.elim
theorem jl_make (hC : clsA X.K c = some C) (M0 : Mk X.K C fa) (G : FnOk X.prog X.w X.K X.mg X.base CX0 k fa fd pr (spF X.K n F)) (hn : as.length + 1 = n) (hr : Room (k + 1) X.A) (hg : Gl X x) (hm : X.mg x = some (.ref C)) (hb : Binds X.K fd pr []) (ha : PA X (e :: es) (tOfA X.K E (evA as)))
    (hdb : (x == ("__debug__" : Str)) = false := by decide) (he : starEach (e :: es) X.env = (false, eval e X.env) :: starEach es X.env := by rfl) (hpl : (backTo pos (starEach es X.env)).any (·.1) = false := by rfl) : PE X (.Call (.Name x p) (e :: es) [] pos) (tOfL X.K E (mMake c F as)) :=
  pe_imp (pe_make M0 G hr hg hm hb .nil pass0 ha hdb he hpl) fun σ H Q ⟨G, g, δ, re, po⟩ => by
    unfold tMake
    unfold mMake at po
    have po' := po
    unfold mBind at po'
    cases qa : evA as δ with
    | ok cs0 δ0 =>
      have hl := evA_len _ _ _ _ qa
      rw [qa] at po'
      refine ⟨G, g, δ, re, ?_⟩
      rw [qa]
      intro g1 H1 e1 re1 vs r1
      exact make_spec hC (by rw [hl, hn]) re1 r1 (Post.ex po' e1)
    | exc y δ0 =>
      rw [qa] at po'
      refine ⟨G, g, δ, re, ?_⟩
      rw [qa]
      exact po'
    | bad => rw [qa] at po'; exact po'.elim
end
end Ds
namespace Ds
open PySem PySem.Spec PyProof.Rows L2 Dn
section
variable {K : Frag} {G : Hp} {g : Gh} {H : Hp} {σ : L2.St} {δ : Sx}
/-- the keys of a locked dict -/
def keysD (kvs : List (List Key × Cl)) : List D := kvs.map fun kv => .tuple (kv.1.map keyD)
end
section
variable {X : Cx} {E : XQ} {tg e : Expr} {pos : Pos} {ml p : M Nat}
def mKeysT (ml : M Nat) : M (List D) := mBind ml fun l δ => match δ.s[l]? with
  | some (.ft kvs) => .ok (keysD kvs) δ
  | _ => .bad
/-- while the dict at p is locked -/
def mLock {α : Type} (p : M Nat) (m : M α) : M α := fun δ => match p δ with
  | .ok l _ => (match δ.s[l]? with
    | some (.dt kvs) => (match m ⟨δ.e, δ.s.set l (.ft kvs)⟩ with
      | .ok x δ' => (match δ'.s[l]? with
        | some (.ft kvs') => .ok x ⟨δ'.e, δ'.s.set l (.dt kvs')⟩
        | _ => .bad)
      | _ => .bad)
    | _ => .bad)
  | _ => .bad
end
end Ds
namespace Ds
open PySem PySem.Spec PyProof.Rows L2 Dn
def tup1 : D → Bool
  | .tuple (_ :: _) => true
  | _ => false
def oth : D → Bool
  | .none => false
  | .tuple _ => false
  | _ => true
def sortB (ds : List D) : Bool := (ds.all fun d => ds.all fun e => PySem.W.alike d e) && (ds.all tup1 || ds.all oth) && (ds.all fun d => decide (d.depth ≤ 8)) && decide (ds.length ≤ sizeLine)
def sortD (ds : List D) : List D := ds.mergeSort (PySem.W.dataLe false id)
structure SortP (ds : List D) : Prop where
  al : PySem.W.AllAlike (ds.map id)
  so : PySem.W.Sortable (ds.map id)
  de : ∀ d ∈ ds, d.depth ≤ 8
  le : ds.length ≤ sizeLine
theorem sortB_p {ds : List D} (h : sortB ds = true) : SortP ds := by
  unfold sortB at h
  rw [Bool.and_eq_true, Bool.and_eq_true, Bool.and_eq_true, Bool.or_eq_true] at h
  obtain ⟨⟨⟨h1, h2⟩, h3⟩, h4⟩ := h
  refine ⟨?_, ?_, fun d hd => of_decide_eq_true (List.all_eq_true.mp h3 d hd), of_decide_eq_true h4⟩
  · rw [List.map_id]
    exact fun d hd e he => List.all_eq_true.mp (List.all_eq_true.mp h1 d hd) e he
  · rw [List.map_id]
    rcases h2 with h2 | h2
    · refine .inl fun d hd => ?_
      have := List.all_eq_true.mp h2 d hd
      cases d with
      | tuple xs =>
        cases xs with
        | nil => cases this
        | cons x r => exact ⟨x, r, rfl⟩
      | _ => cases this
    · refine .inr fun d hd => ?_
      have := List.all_eq_true.mp h2 d hd
      refine ⟨fun z => ?_, fun xs z => ?_⟩
      · subst z; cases this
      · subst z; cases this
section
variable {X : Cx} {pins : List (Addr × Obj)} {σ : L2.St} {H : Hp} {s : Shared}
theorem each_of {K : Frag} {xs : List V} {us : List Value} {ds : List D} (r : Rps K H xs ds) : Vals xs us → PySem.W.EachIs (fun u d => ∃ v, RelV v u ∧ Rp K H v d) us ds := by
  intro h
  induction h generalizing ds with
  | nil => cases r; exact .nil
  | cons h t ih =>
    cases r with
    | cons r1 r2 => exact .cons ⟨_, h, r1⟩ (ih r2)
theorem of_each {K : Frag} {us : List Value} {ds : List D} (r : PySem.W.EachIs (fun u d => ∃ v, RelV v u ∧ Rp K H v d) us ds) : ∃ xs, Vals xs us ∧ Rps K H xs ds := by
  induction r with
  | nil => exact ⟨[], .nil, .nil⟩
  | cons h t ih =>
    obtain ⟨v, h1, h2⟩ := h
    obtain ⟨xs, k1, k2⟩ := ih
    exact ⟨v :: xs, .cons h1 k1, .cons h2 k2⟩
def rSortData (K : Frag) : List V → Hp → VK → Prop := fun vs H Q => ∃ Hs a xs ds, vs = [V.ref a] ∧ Ex Hs H ∧ SqL K H a xs ∧ Rps K Hs xs ds ∧ SortP ds ∧ ∀ ys p, Rps K Hs ys (sortD ds) → H p = none → Q (.ref p) (upd H p (.lst ys))
theorem cr_sortData (hu : X.A.units + 64 < cLine) : CallR X (.builtin "sorted") (rSortData X.K) := by
  intro pins s σ H vs us Q I r h
  obtain ⟨Hs, a, xs, ds, rfl, ex, hs, hr, hp, q⟩ := h
  obtain ⟨its, rv, hl, hz⟩ := I.list hs
  rw [Vals.ref1 r]
  have e := each_of hr rv
  have er : PySem.W.EachIs (fun u d => ∃ as, Reads s.heap u (id d) as) its ds := e.mono fun u d ⟨v, h1, h2⟩ => Dp.reads I d v u (Rp.dp (h2.ex ex)) h1
  refine PySem.W.sorted_data (enc := id) hl.isList e er hp.al hp.so hp.le (fun d hd => ?_) fun out hlo ho => ?_
  · have := hp.de d hd
    show _ + 2 + d.depth < cLine
    first
      | omega
      | (show X.A.units + 1 + 2 + d.depth < cLine; omega)
      | (show X.A.units + 1 + 1 + 2 + d.depth < cLine; omega)
  · obtain ⟨ys, k1, k2⟩ := of_each ho
    obtain ⟨ep, he'⟩ := PyProof.Rows.sortedAll_at s.heap its out.toArray
    have hlen : ys.length ≤ sizeLine := by
      rw [Rps.length k2]
      rw [List.length_mergeSort]
      exact hp.le
    refine ⟨.ref _, upd H (s.heap.objs.size + 1) (.lst ys), I.laid (t' := s.toks) (fun _ _ => PyProof.Rows.sortedAll_old) (Nat.le_succ _) ⟨hlen, out, ep, k1, he'⟩, rfl, q _ _ k2 (I.hok.fresh (Nat.le_succ _))⟩
end
section
variable {X : Cx} {E : XQ} {o : Expr} {pos p : Pos} {ml : M Nat} {m : M D}
/-- sorted of data -/
def mSortL (m : M D) : M D := mBind m fun d => mOpt (match d with
  | .list ds => if sortB ds then some (.list (sortD ds)) else none
  | _ => none)
theorem je_sortL (hu : X.A.units + 64 < cLine) (hg : Gl X "sorted") (hm : X.mg "sorted" = none) (hv : bootBuiltins "sorted" = some (.builtin "sorted")) (ho : PE X o (tOf X.K E m))
    (h1 : starEach [o] X.env = (false, eval o X.env) :: starEach [] X.env := by rfl) (hpl : (backTo pos (starEach [] X.env)).any (·.1) = false := by rfl) : PE X (.Call (.Name "sorted" p) [o] [] pos) (tOf X.K E (mSortL m)) :=
  pe_imp (pe_callB (cr_sortData hu) hg hm hv (pa_cons ho pa_nil h1) (by decide) (by decide) h1 hpl) fun σ H Q ⟨G, g, δ, re, po⟩ => by
    show tOf X.K E m σ H fun v H1 => rSortData X.K [v] H1 Q
    refine tOf.step re po fun v d g1 H1 δ1 e1 re1 r1 po1 => ?_
    obtain ⟨c, hc, po2⟩ := Post.opt po1
    cases r1 with
    | @lst a xs ds q t =>
      dsimp only at hc
      split at hc
      · rename_i hb
        cases hc
        exact ⟨g1.h, a, xs, ds, rfl, re1.ex, sqL_ex re1.ex q, t, sortB_p hb, fun ys b hy hb' => Post.grow po2 re1 (Grw.new re1.ex hb') _ (.lst (SqL.of upd_same) (Rps.ex (Gr.new re1.ex hb').s hy))⟩
      · cases hc
    | _ => cases hc
/-- sorted of a dict with tuple keys -/
def mSortDT (ml : M Nat) : M D := mBind ml fun l δ => match tkAt δ.s l with
  | some kvs => if sortB (keysD kvs) then .ok (.list (sortD (keysD kvs))) δ else .bad
  | none => .bad
end
end Ds
namespace Ds
open PySem PySem.Spec PyProof.Rows L2 Dn
section
variable {X : Cx} {E : XQ} {a b : Expr} {pos p p' : Pos} {ma mb : M D}
def mListR1 (m : M D) : M D := mBind m fun d => mOpt (match d with
  | .int j => if inLine j = true ∧ (j - 0).toNat ≤ 16777216 then some (.list (rngD 0 (j - 0).toNat)) else none
  | _ => none)
end
end Ds
namespace Ds
open PySem PySem.Spec PyProof.Rows L2 Dn
def dRev : D → Option D
  | .tuple xs => some (.tuple xs.reverse)
  | .list xs => some (.list xs.reverse)
  | _ => none
def mRev (m : M D) : M D := mBind m fun d => mOpt (dRev d)
section
variable {X : Cx} {E : XQ} {e : Expr} {m : M D} {mc : M Cl} {k : Nat} {p1 p2 p3 pos : Pos}
variable {o : Expr} {ml : M Nat} {mk : M D}
theorem jt_din (hu : X.A.units + 64 < cLine) (hi : PE X e (tOf X.K E mk)) (ho : PE X o (tOfL X.K E ml)) (h1 : behindInMarks .In o = false) : PT X (.Compare e [.In] [o] pos) (tOfT X.K E (mTest (mDIn false mk ml))) :=
  pt_imp (pt_cmp (pc_din (by omega) hi ho) h1) fun σ H Q q => testS (t := tDIn (tOf X.K E mk) (tOfL X.K E ml)) (fun σ H Q ⟨G, g, δ, re, po⟩ => tOf.step re po fun y d g1 H1 δ1 e1 re1 r1 po1 => tOfL.step re1 po1 fun q l g2 H2 δ2 e2 re2 r2 po2 => by
    split at po2
    · rename_i kvs k hx hk
      obtain ⟨vs, h1, h2⟩ := re2.dkAt r2 hx
      refine ⟨q, valV vs k, rfl, ?_, ?_⟩
      · rw [toK_v r1 hk]; exact DGet.k h1
      · rw [h2.isSome k]; exact Post.of po2 re2 _ (.bl _)
    · exact po2.elim) q
theorem jt_dnotin (hu : X.A.units + 64 < cLine) (hi : PE X e (tOf X.K E mk)) (ho : PE X o (tOfL X.K E ml)) (h1 : behindInMarks .NotIn o = false) : PT X (.Compare e [.NotIn] [o] pos) (tOfT X.K E (mTest (mDIn true mk ml))) :=
  pt_imp (pt_cmp (pc_dnotin (by omega) hi ho) h1) fun σ H Q q => testS (t := tDNotIn (tOf X.K E mk) (tOfL X.K E ml)) (fun σ H Q ⟨G, g, δ, re, po⟩ => tOf.step re po fun y d g1 H1 δ1 e1 re1 r1 po1 => tOfL.step re1 po1 fun q l g2 H2 δ2 e2 re2 r2 po2 => by
    split at po2
    · rename_i kvs k hx hk
      obtain ⟨vs, h1, h2⟩ := re2.dkAt r2 hx
      refine ⟨q, valV vs k, rfl, ?_, ?_⟩
      · rw [toK_v r1 hk]; exact DGet.k h1
      · rw [h2.isSome k]; exact Post.of po2 re2 _ (.bl _)
    · exact po2.elim) q
end
end Ds
namespace Ds
open PySem PySem.Spec PyProof.Rows L2 Dn
def dMulT : D → D → Option D
  | .tuple ds, .int k => if ds ≠ [] ∧ 2 ≤ k ∧ k ≤ 1000 ∧ ds.length ≤ 1000 then some (.tuple (List.replicate k.toNat ds).flatten) else none
  | _, _ => none
theorem rps_rep {K : Frag} {H : Hp} {vs : List V} {ds : List D} (h : Rps K H vs ds) : ∀ n : Nat, Rps K H (List.replicate n vs).flatten (List.replicate n ds).flatten
  | 0 => .nil
  | n + 1 => by
    rw [List.replicate_succ, List.replicate_succ, List.flatten_cons, List.flatten_cons]
    exact h.append (rps_rep h n)
theorem os_mulT {K : Frag} : OpS K (rRepT K) dMulT := fun Hs H x y d e c Q ex rx ry hg k => by
  cases rx with
  | @tup a xs ds h t =>
    cases ry <;> simp only [dMulT, Option.ite_none_right_eq_some, Option.some.injEq, reduceCtorEq] at hg
    obtain ⟨⟨h1, h2, h3, h4⟩, hg⟩ := hg
    subst hg
    refine ⟨_, _, xs, rfl, rfl, sqT_ex ex h, ?_, h2, h3, by rw [t.length]; exact h4, fun p hp => k _ _ _ (Gr.new ex hp) (.tup (StT.of upd_same) ((rps_rep t _).ex (Gr.new ex hp).s))⟩
    intro e
    subst e
    cases t
    exact h1 rfl
  | _ => cases ry <;> simp [dMulT] at hg
end Ds
namespace L2
open PySem PySem.Spec PyProof.Rows
theorem tuple_mul1 (l : Addr) (items : Array Value) (n : Nat) (dd : Option Addr) (sl : Array (Option Value)) (u : Tok) :
    Meets (Builtin.«tuple.__mul__» ⟨[.ref l, .int 1 u], []⟩) (fun _ R s => s.heap.get? l = some { cls := .type "tuple", dict := dd, data := .seq items n, slots := sl } ∧
      R (.ok (.ret (Value.ref l))) s) :=
  .of_wp fun prog w A R s h => by
    obtain ⟨hp, g, d, tk, os⟩ := s
    obtain ⟨hl, h⟩ := h
    have f1 := AutoSeq1.idx_int
    wp_walk using wpAny_loadPart' hl
    repeat (first
      | (refine wpAny_ite_false (decide_eq_false (by decide)) ?_; wp_walk using wpAny_loadPart' hl)
      | (refine wpAny_ite_true (by simp) ?_; wp_walk using wpAny_loadPart' hl))
    exact ⟨_, rfl, h⟩
theorem tuple_mul0 (l : Addr) (items : Array Value) (n : Nat) (dd : Option Addr) (sl : Array (Option Value)) (u : Tok) (c1 : items.isEmpty = false) :
    Meets (Builtin.«tuple.__mul__» ⟨[.ref l, .int 0 u], []⟩) (fun _ R s => s.heap.get? l = some { cls := .type "tuple", dict := dd, data := .seq items n, slots := sl } ∧
      R (.ok (.ret (Value.ref s.heap.objs.size))) { s with heap := s.heap.push { cls := Value.type "tuple", data := Data.seq #[] }, toks := s.toks }) :=
  .of_wp fun prog w A R s h => by
    obtain ⟨hp, g, d, tk, os⟩ := s
    obtain ⟨hl, h⟩ := h
    have f1 := AutoSeq1.idx_int
    wp_walk using wpAny_loadPart' hl
    repeat (first
      | (refine wpAny_ite_false (decide_eq_false (by decide)) ?_; wp_walk using wpAny_loadPart' hl)
      | (refine wpAny_ite_false (decide_eq_false (by rw [c1]; exact Bool.false_ne_true)) ?_; wp_walk using wpAny_loadPart' hl)
      | (refine wpAny_ite_true (by simp) ?_; wp_walk using wpAny_loadPart' hl)
      | (refine wpAny_ite_false (decide_eq_false (by simp [sizeLine_eq])) ?_; wp_walk using wpAny_loadPart' hl))
    exact ⟨_, rfl, h⟩
/-- xs * n: n is 0 or 1 -/
def rRepO (K : PySem.W.Frag) : R2 := fun x y H Q => ∃ l xs, x = .ref l ∧ SqT K H l xs ∧ xs ≠ [] ∧ ((y = .int 1 ∧ Q (.ref l) H) ∨ (y = .int 0 ∧ ∀ p, H p = none → Q (.ref p) (upd H p (.tup []))))
section
variable {X : Cx}
theorem op_repO : OpR X (binaryOp .Mult) (rRepO X.K) := by
  intro pins s σ H x y v u Q I rx ry h
  obtain ⟨l, xs, rfl, hT, hne, h⟩ := h
  cases rx
  obtain ⟨its, r, ⟨⟨cls, dd, data, sl⟩, ho, hc, n, hd⟩, hs⟩ := I.tuple hT
  simp only at hc hd
  subst hc hd
  have hle : its.length = xs.length := r.length.symm
  have hn : its ≠ [] := fun e => hne (by
    rw [e] at hle
    exact List.eq_nil_of_length_eq_zero hle.symm)
  have hi : its.toArray.isEmpty = false := by
    cases its with
    | nil => exact absurd rfl hn
    | cons a b => rfl
  rcases h with ⟨rfl, q⟩ | ⟨rfl, q⟩
  · obtain ⟨t, rfl⟩ := ry
    refine wpAny_binaryOp_repeat_ref (T := "tuple") (U := "int") (by decide) ⟨_, ho, rfl⟩ (fun s' => typeIs_int s' 1 t) noFill_tuple_mul F.fills_int_mul F.slot_int_rmul repeat_tuple F.slot_int_index.lookup
      (call_meets F.slot_int_rmul (typeIs_int s 1 t) F.entry_int_rmul (F.args_int_rmul_2 _ _) (int_rmul_tuple 1 t l its.toArray n dd sl)
        ⟨ho, rfl, ⟨_, ho, rfl⟩, call_meets F.slot_tuple_mul ⟨_, ho, rfl⟩ F.entry_tuple_mul (F.args_tuple_mul_2 _ _) (tuple_mul1 l its.toArray n dd sl t) ⟨ho, ?_⟩⟩)
    exact ⟨.ref l, H, I, rfl, q⟩
  · obtain ⟨t, rfl⟩ := ry
    refine wpAny_binaryOp_repeat_ref (T := "tuple") (U := "int") (by decide) ⟨_, ho, rfl⟩ (fun s' => typeIs_int s' 0 t) noFill_tuple_mul F.fills_int_mul F.slot_int_rmul repeat_tuple F.slot_int_index.lookup
      (call_meets F.slot_int_rmul (typeIs_int s 0 t) F.entry_int_rmul (F.args_int_rmul_2 _ _) (int_rmul_tuple 0 t l its.toArray n dd sl)
        ⟨ho, rfl, ⟨_, ho, rfl⟩, call_meets F.slot_tuple_mul ⟨_, ho, rfl⟩ F.entry_tuple_mul (F.args_tuple_mul_2 _ _) (tuple_mul0 l its.toArray n dd sl t hi) ⟨ho, ?_⟩⟩)
    refine ⟨.ref s.heap.objs.size, _, I.laid (t' := s.toks) (o := .tup []) (fun b ob q => Heap.get?_push_of_some _ q) (Nat.le_refl _) ?_, rfl, q _ (I.hok.fresh (Nat.le_refl _))⟩
    exact ⟨Nat.zero_le _, [], .nil, IsTup.new _ _⟩
end
end L2
namespace Ds
open PySem PySem.Spec PyProof.Rows L2 Dn
def dMulO : D → D → Option D
  | .tuple ds, .int k => if ds ≠ [] ∧ k = 1 then some (.tuple ds) else if ds ≠ [] ∧ k = 0 then some (.tuple []) else none
  | _, _ => none
theorem os_mulO {K : Frag} : OpS K (rRepO K) dMulO := fun Hs H x y d e c Q ex rx ry hg k => by
  cases rx with
  | @tup a xs ds h t =>
    cases ry with
    | int i =>
      have ne : ∀ (w : ds ≠ []), xs ≠ [] := fun w z => by
        subst z
        cases t
        exact w rfl
      simp only [dMulO] at hg
      split at hg
      · rename_i w
        obtain ⟨w, rfl⟩ := w
        cases hg
        exact ⟨_, xs, rfl, sqT_ex ex h, ne w, .inl ⟨rfl, k _ _ _ (Gr.refl ex) (.tup h t)⟩⟩
      · split at hg
        · rename_i w
          obtain ⟨w, rfl⟩ := w
          cases hg
          exact ⟨_, xs, rfl, sqT_ex ex h, ne w, .inr ⟨rfl, fun p hp => k _ _ _ (Gr.new ex hp) (.tup (StT.of upd_same) .nil)⟩⟩
        · cases hg
    | _ => simp [dMulO] at hg
  | _ => cases ry <;> simp [dMulO] at hg
end Ds
namespace Ds
open PySem PySem.Spec PyProof.Rows L2 Dn
theorem KVs.none {K : Frag} {es : List DictEntry} {kvs : List (Str × D)} (h : KVs K es kvs) {z : Str} (q : lookS kvs z = none) : es.find? (·.key.isStr z) = none := by
  induction h with
  | nil => rfl
  | @cons e r x t v d0 kvs he hv hr _ ih =>
    have k1 : e.key.isStr z = (x == z) := by rw [he]; rfl
    unfold lookS at q ih
    rw [List.find?_cons] at q ⊢
    by_cases hx : x = z
    · rw [decide_eq_true hx] at q
      cases q
    · rw [decide_eq_false hx] at q
      have : (x == z) = false := by simpa using hx
      rw [k1, this]
      exact ih q
section
variable {X : Cx} {E : XQ} {e f o : Expr} {pos apos cpos : Pos} {m mz : M D} {ml : M Nat}
/-- o.f += n, o.f -= n -/
def mAugF (c : Str) (ml : M Nat) (f : Str) (F : Int → Int → Int) (k : Int) : M Fl := mBind ml fun l δ => match δ.s[l]? with
  | some (.ins c' fs) => if c' = c ∧ fs.length < 1000 then (match fs.lookup f with
    | some (.sh (.int i)) => .ok .nx ⟨δ.e, δ.s.set l (.ins c (putFC f (.sh (.int (F i k))) fs))⟩
    | _ => .bad) else .bad
  | _ => .bad
def rI2 (F : Int → Int → Int) : V → V → Hp → VK → Prop := fun x y H Q => ∃ i j, x = .int i ∧ y = .int j ∧ Q (.int (F i j)) H
theorem js_augF {c fl : Str} {C : Addr} {op : Operator} {F : Int → Int → Int} {k : Int} {tpos kp : Pos} {kk : Nat} (hC : clsA X.K c = some C) (hk : Cls X.K C) (n : NoAttr X.K C fl) (ho : PE X o (tOfL X.K E ml)) (hop : InOp X op (rI2 F)) : PS X (.AugAssign (.Attribute o fl tpos) op (.Constant (.int k) kk kp) pos) (tOfS X.K E (mAugF c ml fl F k)) :=
  pst_imp (ps_fldaug ho pe_int hop) fun B σ H ⟨G, g, δ, re, po⟩ => tOfL.stepS re po fun q l g2 H2 δ2 e2 re2 r2 po2 => by
    split at po2
    · rename_i c' fs hx
      split at po2
      · rename_i hc
        obtain ⟨hc, hl⟩ := hc
        subst hc
        obtain ⟨dx, vs, h1, h2⟩ := re2.insAt hC r2 hx
        split at po2
        · rename_i i hf
          rcases h2.look fl with ⟨z, _⟩ | ⟨v, y, k1, k2, k3⟩
          · rw [z] at hf; cases hf
          · rw [k1] at hf
            cases hf
            cases k3 with
            | sh k3 =>
              cases k3
              refine ⟨q, C, dx, vs, _, rfl, h1, hk, n, k2, ?_⟩
              refine ⟨_, _, rfl, rfl, dx, vs, h1, by rw [h2.length]; exact hl, PostS.of po2 (re2.write hx rfl r2 (.ins hC (h2.putF fl (.sh (.int _)))))⟩
        · exact po2.elim
      · exact po2.elim
    · exact po2.elim
end
end Ds
namespace Ds
open PySem PySem.Spec PyProof.Rows L2 Dn
/-- what an exception is as data: its class, by the class's name -/
def XD (num : Option Int) (d : Option Addr) (H : Hp) : Prop := match num with
  | none => d = none
  | some n => ∃ (dx : Addr) (fs : List (Str × V)), d = some dx ∧ H dx = some (.xd fs) ∧ fs.lookup ("number" : Str) = some (V.int n)
def XR (K : Frag) (y : Exn) (cls : Value) (d : Option Addr) (H : Hp) : Prop := ∃ C, clsA K y.cls = some C ∧ cls = .ref C ∧ XD y.num d H
def wX (K : Frag) (E : XQ) : WX := fun cls d σ H => ∃ y, XR K y cls d H ∧ E y σ H
def xqOf (K : Frag) (E0 : XK) : XQ := fun y _ H => ∀ cls d, XR K y cls d H → E0 cls d H
def xqW (K : Frag) (W : WX) : XQ := fun y σ H => ∀ cls d, XR K y cls d H → W cls d σ H
theorem wX_of {K : Frag} {E0 : XK} {cls : Value} {d : Option Addr} {σ : L2.St} {H : Hp} (h : wX K (xqOf K E0) cls d σ H) : E0 cls d H := by
  obtain ⟨y, h1, h2⟩ := h
  exact h2 _ _ h1
theorem wX_W {K : Frag} {W : WX} {cls : Value} {d : Option Addr} {σ : L2.St} {H : Hp} (h : wX K (xqW K W) cls d σ H) : W cls d σ H := by
  obtain ⟨y, h1, h2⟩ := h
  exact h2 _ _ h1
/-- a def that may raise -/
def spX (K : Frag) (n : Nat) (F : Fn) : Sp := fun vs H Q E => vs.length = n ∧ ∃ (G : Hp) (g : Gh) (as : List Cl) (s : List Ob), RE K G g H [] ⟨[], s⟩ ∧ All2 (CR K g) vs as ∧
  match F as s with
  | .ok c s' => ∀ g' H', Le g g' → RE K G g' H' [] ⟨[], s'⟩ → ∀ v, CR K g' v c → Q v H'
  | .exc x s' => ∀ g' H', Le g g' → RE K G g' H' [] ⟨[], s'⟩ → ∀ cls d, XR K x cls d H' → E cls d H'
  | .bad => False
section
variable {P : Program} {w : World} {K : Frag} {mg : Str → Option Value} {base : Heap}
theorem fnX_J {x qual : Str} {st : Stmt} {f : Addr} {fd : FuncData} {N pr : List Str} {k n nN : Nat} {mb : M Fl} (F : Fun K x qual st f fd) (S : FnScope N pr (defScope st)) (hn : pr.length = n) (hN : N.length = nN) (hle : n ≤ nN)
    (hbody : ∀ (cdv : Value) (A : Around) (outer : List PySem.Env) (s : Shared) (H : Hp) (E : XK), Room k (A.deeper (envOfC qual (defScope st) s.heap.objs.size f cdv)) →
      Takes (cxOf (L2.CX P w) P w K mg base N qual (defScope st) f cdv A outer s H E) (wX K (xqOf K E)) →
      PassesOwn (model P w) (cxOf (L2.CX P w) P w K mg base N qual (defScope st) f cdv A outer s H E).A (cxOf (L2.CX P w) P w K mg base N qual (defScope st) f cdv A outer s H E).env (cxOf (L2.CX P w) P w K mg base N qual (defScope st) f cdv A outer s H E).xe →
      PSs (cxOf (L2.CX P w) P w K mg base N qual (defScope st) f cdv A outer s H E) (defBody st) (tOfS K (xqOf K E) mb)) : FnOk P w K mg base (L2.CX P w) (k + 1) f fd pr (spX K n (fnF n nN mb)) := by
  refine F.okX S (fun vs H Q E h => by rw [h.1, hn]) fun cdv A outer s H vs Q E hr h => ⟨_, hbody cdv A outer s H E hr ((takes_of rfl rfl rfl rfl).imp fun c d σ H h => wX_of h) (passes_of rfl), ?_⟩
  obtain ⟨hl, G, g, as, st0, re, t, po⟩ := h
  have hst : L2.start N vs = vs.map some ++ List.replicate (nN - n) none := by unfold L2.start; rw [hN, hl]
  refine ⟨G, g, ⟨as ++ List.replicate (nN - n) .no, st0⟩, by rw [hst]; exact re.start t _, ?_⟩
  have hal : as.length = n := by rw [← t.length, hl]
  unfold fnF at po
  rw [if_pos hal] at po
  have grl : g.r.length = st0.length := re.rl
  have fin : ∀ {c : Cl} {δ' : Sx} {σ' : L2.St} {g' : Gh} {H' : Hp} {v : V}, (∀ g' H', Le g g' → RE K G g' H' [] ⟨[], trim st0.length c δ'.s⟩ → ∀ v, CR K g' v c → Q v H') → Le g g' → RE K G g' H' σ' δ' → CR K g' v c → Q v H' := fun {c δ' σ' g' H' v} k e r hc => by
    have hn' : st0.length ≤ δ'.s.length := by
      rw [← r.rl, ← grl]
      by_cases h0 : g.r.length = 0
      · omega
      · have := (List.getElem?_eq_some_iff.mp (e.r (g.r.length - 1) _ (List.getElem?_eq_getElem (by omega)))).1
        omega
    obtain ⟨g2, a1, a2, a3, a4⟩ := RE.trim (δ := δ') (n := st0.length) r.bare hn' hc
    refine k g2 H' ⟨fun l a h => a2 l a ?_ (e.r l a h), by rw [a1]; exact e.h⟩ a3 v a4
    have := (List.getElem?_eq_some_iff.mp h).1
    omega
  cases q : mb ⟨as ++ List.replicate (nN - n) .no, st0⟩ with
  | ok fl δ' =>
    rw [q] at po
    cases fl with
    | nx => exact fun σ' g' H' e r => fin po e r (.sh .non)
    | rt c => exact fun σ' g' H' e r v rv => fin po e r rv
    | bk => exact po.elim
    | ct => exact po.elim
  | exc x δ' =>
    rw [q] at po
    exact fun σ' g' H' e r cls d xr => po g' H' e r.bare cls d xr
  | bad => rw [q] at po; exact po.elim
end
section
variable {X : Cx} {E : XQ} {E0 : XK} {F : Fn} {as : List (M Cl)} {k n : Nat} {f C : Addr} {fd : FuncData} {pr : List Str} {x m c : Str} {e o : Expr} {es : List Expr} {p p2 pos pos' apos : Pos} {j : Nat}
def mRaise (x : Str) : M Fl := fun δ => .exc ⟨x, none⟩ δ
theorem js_raiseG {bmB : List Value} {B newId initId : String} (F : ExcBaseFacts B newId initId bmB) (q : PySem.W.excIn X.K C bmB newId = true) (hcl : clsA X.K x = some C) (kC : PySem.W.keepIn X.K (.ref C) = true) (r : Raises X (.ref C)) (hc : X.calm = true) (tk : Takes X (wX X.K E)) (gC : X.mg x = some (.ref C)) (hg : Gl X x)
    (hdb : (x == ("__debug__" : Str)) = false := by decide) : PS X (.Raise (some (.Call (.Name x p) [.Constant (.str m) j p2] [] pos)) none pos') (tOfS X.K E (mRaise x)) :=
  pst_imp (ps_raise hc tk (pmk_own F q gC kC r hg hdb)) fun B σ H ⟨G, g, δ, re, po⟩ => ⟨⟨x, none⟩, ⟨C, hcl, rfl, show (none : Option Addr) = none from rfl⟩, po σ g H (Le.refl _) re⟩
def mCallX (F : Fn) (as : List (M Cl)) : M Cl := mBind (evA as) fun cs δ => match F cs δ.s with
  | .ok c s' => .ok c ⟨δ.e, s'⟩
  | .exc x s' => .exc x ⟨δ.e, s'⟩
  | .bad => .bad
theorem callX_spec {G : Hp} {g : Gh} {H : Hp} {σ : L2.St} {δ : Sx} {cs : List Cl} {vs : List V} {Q : VK} (hn : cs.length = n) (re : RE X.K G g H σ δ) (r1 : All2 (CR X.K g) vs cs) (po : Post X.K E G g σ (match F cs δ.s with
  | .ok c s' => .ok c ⟨δ.e, s'⟩
  | .exc x s' => .exc x ⟨δ.e, s'⟩
  | .bad => (.bad : Res Cl)) fun c g' H' _ => ∀ v, CR X.K g' v c → Q v H') : spX X.K n F vs H Q (WE (wX X.K E) σ) := by
  refine ⟨by rw [r1.length, hn], G, g, cs, δ.s, re.bare, r1, ?_⟩
  cases q : F cs δ.s with
  | ok c s' =>
    rw [q] at po
    exact fun g' H' e r v rv => po g' H' e (re.lift e r) v rv
  | exc y s' =>
    rw [q] at po
    exact fun g' H' e r cls d xr => ⟨y, xr, po g' H' e (re.lift e r)⟩
  | bad => rw [q] at po; exact po.elim
theorem callX_read (hn : as.length = n) {σ : L2.St} {H : Hp} {Q : VK} (h : tOfC X.K E (mCallX F as) σ H Q) : tOfA X.K E (evA as) σ H fun vs H1 => spX X.K n F vs H1 Q (WE (wX X.K E) σ) := by
  obtain ⟨G, g, δ, re, po⟩ := h
  unfold mCallX at po
  have po' := po
  unfold mBind at po'
  cases qa : evA as δ with
  | ok cs0 δ0 =>
    have hl := evA_len _ _ _ _ qa
    rw [qa] at po'
    refine ⟨G, g, δ, re, ?_⟩
    rw [qa]
    intro g1 H1 e1 re1 vs r1
    exact callX_spec (by rw [hl, hn]) re1 r1 (Post.ex po' e1)
  | exc y δ0 =>
    rw [qa] at po'
    refine ⟨G, g, δ, re, ?_⟩
    rw [qa]
    exact po'
  | bad => rw [qa] at po'; exact po'.elim
theorem jc_callX (tk : Takes X (wX X.K E)) (G : FnOk X.prog X.w X.K X.mg X.base (L2.CX X.prog X.w) k f fd pr (spX X.K n F)) (hn : as.length = n) (hr : Room k X.A) (hg : Gl X x) (hm : X.mg x = some (.ref f)) (hk : PySem.W.keepIn X.K (.ref f) = true) (hb : Binds X.K fd pr []) (ha : PA X (e :: es) (tOfA X.K E (evA as)))
    (hdb : (x == ("__debug__" : Str)) = false := by decide) (he : starEach (e :: es) X.env = (false, eval e X.env) :: starEach es X.env := by rfl) (hpl : (backTo pos (starEach es X.env)).any (·.1) = false := by rfl) : PE X (.Call (.Name x p) (e :: es) [] pos) (tOfC X.K E (mCallX F as)) :=
  pe_imp (pe_callS G hr hg hm hk hb (fun σ => passAt tk σ) ha hdb he hpl) fun _ _ _ h => callX_read hn h
/-- o.m(..), m may raise: where the wish is the def's own -/
def mMethX (c m : Str) (F : Fn) (ml : M Nat) (as : List (M Cl)) : M Cl := mBind ml fun l => mBind (isIns c m l) fun l => mBind (evA as) fun cs δ => match F (.lo l :: cs) δ.s with
  | .ok x s' => .ok x ⟨δ.e, s'⟩
  | .exc y s' => .exc y ⟨δ.e, s'⟩
  | .bad => .bad
def xs (K : Frag) (E0 : XK) : XK := fun cls d H => ∃ y, XR K y cls d H ∧ ∀ cls d, XR K y cls d H → E0 cls d H
theorem passX (tk : Takes X (wX X.K (xqOf X.K E0))) : Passes (L2.CX X.prog X.w) X (xs X.K E0) := passes_call tk fun _ _ _ _ h => h
theorem methX_read {fa : Addr} {ml : M Nat} (hC : clsA X.K c = some C) (hn : as.length + 1 = n) {σ : L2.St} {H : Hp} {Q : VK} (h : tOfC X.K (xqOf X.K E0) (mMethX c m F ml as) σ H Q) : tMeth C m (spX X.K n F) [] (xs X.K E0) (tOfL X.K (xqOf X.K E0) ml) (tOfA X.K (xqOf X.K E0) (evA as)) σ H Q := by
  obtain ⟨G, g, δ, re, po⟩ := h
  unfold tMeth
  refine tOfL.step re po fun q l g1 H1 δ1 e1 re1 r1 po1 => ?_
  unfold mBind at po1
  rcases isIns_ok c m l δ1 with h | ⟨fs, hx, hf, h⟩
  · rw [h] at po1; exact po1.elim
  rw [h] at po1
  dsimp only at po1
  obtain ⟨dx, vs, h1, h2⟩ := re1.insAt hC r1 hx
  have hlk : vs.lookup m = none := by
    rcases h2.look m with ⟨_, z⟩ | ⟨v, y, k1, _, _⟩
    · exact z
    · rw [hf] at k1; cases k1
  refine ⟨q, dx, vs, rfl, h1, hlk, ?_⟩
  have po' := po1
  cases qa : evA as δ1 with
  | ok cs0 δ0 =>
    have hl := evA_len _ _ _ _ qa
    rw [qa] at po'
    refine ⟨G, g1, δ1, re1, ?_⟩
    rw [qa]
    intro g2 H2 e2 re2 us r2
    have po2 := Post.ex po' e2
    rw [List.append_nil]
    dsimp only at po2
    exact callX_spec (cs := .lo l :: cs0) (by rw [List.length_cons, hl, hn]) re2 (.cons (.lo (e2.r _ _ r1)) r2) po2
  | exc y δ0 =>
    rw [qa] at po'
    refine ⟨G, g1, δ1, re1, ?_⟩
    rw [qa]
    exact po'
  | bad => rw [qa] at po'; exact po'.elim
variable {fa : Addr} {ml : M Nat}
theorem jc_methX {pl : Sem Bool} (tk : Takes X (wX X.K (xqOf X.K E0))) (hC : clsA X.K c = some C) (k0 : Cls X.K C) (hM : Meth X.K C m fa) (G : FnOk X.prog X.w X.K X.mg X.base (L2.CX X.prog X.w) k fa fd pr (spX X.K n F)) (hn : as.length + 1 = n) (hr : Room k X.A) (hb : Binds X.K fd pr []) (ho : PE X o (tOfL X.K (xqOf X.K E0) ml)) (ha : PA X (e :: es) (tOfA X.K (xqOf X.K E0) (evA as)))
    (hst : starEach (e :: es) X.env = (false, eval e X.env) :: starEach es X.env := by rfl) (hpl : (backTo pos (starEach es X.env)).any (·.1) = false := by rfl)
    (ht : eval (.Call (.Attribute o m apos) (e :: es) [] pos) X.env = (do
      let ov ← eval o X.env
      standAt apos.atName
      let (f, first) ← holding [ov] (getMethod ov m pl)
      callWith pos f first (backTo pos (starEach (e :: es) X.env)) (backToKw pos (keywordEach [] X.env))) := by rfl) : PE X (.Call (.Attribute o m apos) (e :: es) [] pos) (tOfC X.K (xqOf X.K E0) (mMethX c m F ml as)) :=
  pe_imp (pe_meth (pl := pl) ho k0 hM G hr hb .nil (passX tk) ha hst hpl ht) fun _ _ _ h => methX_read (fa := fa) hC hn h
end
end Ds
namespace Ds
open PySem PySem.Spec PyProof.Rows L2 Dn
theorem XD.ex {num : Option Int} {d : Option Addr} {H H' : Hp} (e : Ex H H') (h : XD num d H) : XD num d H' := by
  cases num with
  | none => exact h
  | some n =>
    obtain ⟨dx, fs, h1, h2, h3⟩ := h
    exact ⟨dx, fs, h1, e _ _ h2, h3⟩
/-- in an except suite: slot i holds the exception a that was caught, its dict d stands -/
def CfK {α : Type} (K : Frag) (i : Nat) (a : Addr) (num : Option Int) (d : Option Addr) (m : M α) (σ : L2.St) (H : Hp) (Q : Hp → α → Gh → Hp → Sx → Prop) : Prop :=
  σ[i]? = some (some (.ref a)) ∧ ∃ (G : Hp) (g : Gh) (δ : Sx), RE K G g H σ δ ∧ XD num d g.h ∧ Post K noX G g σ (m δ) (Q G)
def tKD (K : Frag) (i : Nat) (a : Addr) (num : Option Int) (d : Option Addr) (m : M D) : TE := fun σ H Q => CfK K i a num d m σ H fun _ x g' H' _ => ∀ v, Rp K g'.h v x → Q v H'
def tKC (K : Frag) (i : Nat) (a : Addr) (num : Option Int) (d : Option Addr) (m : M Cl) : TE := fun σ H Q => CfK K i a num d m σ H fun _ c g' H' _ => ∀ v, CR K g' v c → Q v H'
def tKT (K : Frag) (i : Nat) (a : Addr) (num : Option Int) (d : Option Addr) (m : M Bool) : TT := fun σ H Q => CfK K i a num d m σ H fun _ b _ H' _ => Q b H'
def Bk (i : Nat) (a : Addr) (B : Ends) : Ends := { nx := fun σ H => σ[i]? = some (some (.ref a)) → B.nx σ H, rt := B.rt, bk := fun σ H => σ[i]? = some (some (.ref a)) → B.bk σ H, ct := fun σ H => σ[i]? = some (some (.ref a)) → B.ct σ H }
/-- statements of an except suite -/
def tKS (K : Frag) (i : Nat) (a : Addr) (num : Option Int) (d : Option Addr) (m : M Fl) : TS := fun B σ H => σ[i]? = some (some (.ref a)) ∧ ∃ (G : Hp) (g : Gh) (δ : Sx), RE K G g H σ δ ∧ XD num d g.h ∧ PostF K noX G g (m δ) (Bk i a B)
section
variable {X : Cx} {i j : Nat} {a : Addr} {num : Option Int} {d : Option Addr} {e b c : Expr} {es : List Expr} {st : Stmt} {rest : List Stmt} {pos : Pos} {m ma mb : M D} {mc : M Cl} {m1 m2 : M Fl} {t1 t2 : M Bool} {K : Frag} {G : Hp} {g : Gh} {H : Hp} {σ : L2.St} {δ : Sx}
theorem CfK.step {α β : Type} {ma : M α} {f : α → M β} {QQ : β → Gh → Hp → Sx → Prop} {R : Hp → α → Gh → Hp → Sx → Prop} (hs : σ[i]? = some (some (.ref a))) (re : RE K G g H σ δ) (xd : XD num d g.h) (po : Post K noX G g σ (mBind ma f δ) QQ)
    (k : ∀ x g1 H1 δ1, Le g g1 → RE K G g1 H1 σ δ1 → XD num d g1.h → Post K noX G g1 σ (f x δ1) QQ → R G x g1 H1 δ1) : CfK K i a num d ma σ H R := by
  refine ⟨hs, G, g, δ, re, xd, ?_⟩
  unfold mBind at po
  cases h : ma δ with
  | ok x δ1 =>
    rw [h] at po
    exact fun g' H' e r => k x g' H' δ1 e r (xd.ex e.h) (Post.ex po e)
  | exc x δ1 =>
    rw [h] at po
    exact po
  | bad =>
    rw [h] at po
    exact po
theorem CfK.stepS {α : Type} {ma : M α} {f : α → M Fl} {B : Ends} {R : Hp → α → Gh → Hp → Sx → Prop} (hs : σ[i]? = some (some (.ref a))) (re : RE K G g H σ δ) (xd : XD num d g.h) (po : PostF K noX G g (mBind ma f δ) B)
    (k : ∀ x g1 H1 δ1, Le g g1 → RE K G g1 H1 σ δ1 → XD num d g1.h → PostF K noX G g1 (f x δ1) B → R G x g1 H1 δ1) : CfK K i a num d ma σ H R := by
  refine ⟨hs, G, g, δ, re, xd, ?_⟩
  unfold mBind at po
  cases h : ma δ with
  | ok x δ1 =>
    rw [h] at po
    exact fun g' H' e r => k x g' H' δ1 e r (xd.ex e.h) (PostS.ex po e)
  | exc x δ1 =>
    rw [h] at po
    exact fun g' H' e r => po σ g' H' e r
  | bad =>
    rw [h] at po
    exact po
theorem jkc_free (h : PE X e (tOfC X.K noX mc)) : PE X e (tKC X.K i a num d mc) := pe_imp h fun _ _ _ ⟨_, G, g, δ, re, _, po⟩ => ⟨G, g, δ, re, po⟩
theorem jkt_free (h : PT X e (tOfT X.K noX t1)) : PT X e (tKT X.K i a num d t1) := pt_imp h fun _ _ _ ⟨_, G, g, δ, re, _, po⟩ => ⟨G, g, δ, re, po⟩
theorem jk_sh (h : PE X e (tKD X.K i a num d m)) : PE X e (tKC X.K i a num d (mSh m)) := pe_imp h fun σ H Q ⟨hs, G, g, δ, re, xd, po⟩ => CfK.step hs re xd po fun x g1 H1 δ1 e1 re1 xd1 po1 v r1 => Post.of po1 re1 _ (.sh r1)
theorem jks_nil : PSs X [] (tKS X.K i a num d mNx) := pss_imp pss_nil fun B σ H ⟨hs, G, g, δ, re, xd, po⟩ => PostS.of po re hs
theorem jks_one (h : PS X st (tKS X.K i a num d m1)) : PSs X [st] (tKS X.K i a num d m1) := pss_one h
theorem jks_cons (h : PS X st (tKS X.K i a num d m1)) (t : PSs X rest (tKS X.K i a num d m2)) : PSs X (st :: rest) (tKS X.K i a num d (mSeq m1 m2)) :=
  pss_imp (pss_cons h t) fun B σ H ⟨hs, G, g, δ, re, xd, po⟩ => by
    refine ⟨hs, G, g, δ, re, xd, ?_⟩
    unfold mSeq at po
    cases q : m1 δ with
    | ok fl δ1 =>
      rw [q] at po
      cases fl with
      | nx => exact fun σ' g' H' e r hs' => ⟨hs', G, g', δ1, r, xd.ex e.h, PostS.ex po e⟩
      | rt s => exact po
      | bk => exact po
      | ct => exact po
    | exc x δ1 =>
      rw [q] at po
      exact po
    | bad =>
      rw [q] at po
      exact po
theorem jks_set {x : Str} {pos' : Pos} (hij : j ≠ i) (hN : X.N.Nodup) (hi : X.N[j]? = some x) (hx : Loc X.env.scope x) (h : PE X e (tKC X.K i a num d mc)) (hs : swapsWith e (some (.Name x pos')) pos.line X.env = pure false := by rfl) (hf : X.fn x = true ∨ X.env.scope.names.lookup x = some .local := by first | exact .inl rfl | exact .inr rfl | assumption) :
    PS X (.Assign [.Name x pos'] e pos) (tKS X.K i a num d (mSet j mc)) :=
  pst_imp (ps_set hN hi hx h hs hf) fun B σ H ⟨hk, G, g, δ, re, xd, po⟩ => CfK.stepS hk re xd po fun c g1 H1 δ1 e1 re1 xd1 po1 v r1 => PostS.of po1 (re1.set r1) (by rw [List.getElem?_set_ne hij]; exact hk)
theorem jks_if {sa sb : List Stmt} {t : M Bool} (hc : PT X c (tKT X.K i a num d t)) (h1 : PSs X sa (tKS X.K i a num d m1)) (h2 : PSs X sb (tKS X.K i a num d m2)) : PS X (.If c sa sb pos) (tKS X.K i a num d (mIfS t m1 m2)) :=
  pst_imp (ps_if hc h1 h2) fun B σ H ⟨hk, G, g, δ, re, xd, po⟩ => CfK.stepS hk re xd po fun b g1 H1 δ1 e1 re1 xd1 po1 => by
    cases b with
    | true => exact ⟨hk, G, g1, δ1, re1, xd1, po1⟩
    | false => exact ⟨hk, G, g1, δ1, re1, xd1, po1⟩
theorem testK {β : Type} {f : Bool → M β} {QQ : β → Gh → Hp → Sx → Prop} {R : V → Hp → Prop} (hs : σ[i]? = some (some (.ref a))) (re : RE K G g H σ δ) (xd : XD num d g.h) (po : Post K noX G g σ (mBind (mTest m) f δ) QQ)
    (k : ∀ b g1 H1 δ1, Le g g1 → RE K G g1 H1 σ δ1 → XD num d g1.h → Post K noX G g1 σ (f b δ1) QQ → R (.bl b) H1) : tKD K i a num d m σ H R := by
  unfold mTest at po
  rw [bind_assoc] at po
  refine CfK.step hs re xd po fun x g1 H1 δ1 e1 re1 xd1 po1 v r1 => ?_
  cases r1 with
  | bl b => exact k b g1 H1 δ1 e1 re1 xd1 po1
  | _ => exact po1.elim
theorem jk_or (h : PE X e (tKD X.K i a num d ma)) (h2 : PE X (.BoolOp .Or (b :: es) pos) (tKD X.K i a num d mb)) : PE X (.BoolOp .Or (e :: b :: es) pos) (tKD X.K i a num d (mOrV ma mb)) :=
  pe_imp (pe_or h h2) fun σ H Q ⟨hs, G, g, δ, re, xd, po⟩ => testK hs re xd po fun b g1 H1 δ1 e1 re1 xd1 po1 => ⟨b, rfl, by
    cases b with
    | true => exact Post.of po1 re1 _ (.bl true)
    | false => exact ⟨hs, G, g1, δ1, re1, xd1, po1⟩⟩
theorem jk_one {op : BoolOp} (h : PE X e (tKD X.K i a num d ma)) : PE X (.BoolOp op [e] pos) (tKD X.K i a num d ma) := pe_one h
theorem jkt_not (h : PT X e (tKT X.K i a num d t1)) : PT X (.UnaryOp .Not e pos) (tKT X.K i a num d (mNotT t1)) :=
  pt_imp (pt_not h) fun σ H Q ⟨hs, G, g, δ, re, xd, po⟩ => CfK.step hs re xd po fun b g1 H1 δ1 e1 re1 xd1 po1 => Post.of po1 re1
theorem jkw_and1 (h : PT X e (tKT X.K i a num d t1)) : PW X (.BoolOp .And [e] pos) (tKT X.K i a num d t1) := pw_and1 h
theorem jkw_and (h : PT X e (tKT X.K i a num d t1)) (h2 : PW X (.BoolOp .And (b :: es) pos) (tKT X.K i a num d t2)) : PW X (.BoolOp .And (e :: b :: es) pos) (tKT X.K i a num d (mAndT t1 t2)) :=
  pw_imp (pw_and h h2) fun σ H Q ⟨hs, G, g, δ, re, xd, po⟩ => CfK.step hs re xd po fun b g1 H1 δ1 e1 re1 xd1 po1 => by
    cases b with
    | true => exact ⟨hs, G, g1, δ1, re1, xd1, po1⟩
    | false => exact Post.of po1 re1
theorem jkt_val (h : PE X e (tKD X.K i a num d m)) (he : ∀ whole, isTrue e X.env whole = (do let v ← whole; standAt e.pos; holding [v] (truthy v)) := by intro _; rfl) : PT X e (tKT X.K i a num d (mTest m)) :=
  pt_imp (pt_val h he) fun σ H Q ⟨hs, G, g, δ, re, xd, po⟩ => by
    refine CfK.step hs re xd po fun x g1 H1 δ1 e1 re1 xd1 po1 v r1 => ?_
    obtain ⟨c, hc, po3⟩ := Post.opt po1
    cases r1 <;> simp [toB] at hc
    subst hc
    exact ⟨_, rfl, Post.of po3 re1⟩
end
/-- the dict of an error that was caught is put among what never changes -/
theorem RE.freezeX {K : Frag} {G : Hp} {g : Gh} {H : Hp} {σ : L2.St} {δ : Sx} {num : Option Int} {d : Option Addr} (r : RE K G g H σ δ) (xd : XD num d H) : ∃ g', Le g g' ∧ RE K G g' H σ δ ∧ XD num d g'.h := by
  cases num with
  | none => exact ⟨g, Le.refl _, r, xd⟩
  | some n =>
    obtain ⟨dx, fs, h1, h2, h3⟩ := xd
    have gd : G dx = none := by
      cases q : G dx with
      | none => rfl
      | some o =>
        have z := (r.fg dx o q).1
        rw [h2] at z
        cases z
        exact absurd q (r.gx dx fs)
    have en : Ex g.h (upd g.h dx (.xd fs)) := fun b o q => by
      by_cases hb : b = dx
      · subst hb
        have z := r.ex b o q
        rw [h2] at z
        cases z
        exact upd_same
      · rw [upd_ne hb]; exact q
    have le : Le g ⟨g.r, upd g.h dx (.xd fs)⟩ := ⟨fun _ _ h => h, en⟩
    refine ⟨⟨g.r, upd g.h dx (.xd fs)⟩, le, ?_, dx, fs, h1, upd_same, h3⟩
    exact {
      ex := fun b o q => by
        have q : upd g.h dx (.xd fs) b = some o := q
        by_cases hb : b = dx
        · subst hb; rw [upd_same] at q; cases q; exact h2
        · rw [upd_ne hb] at q; exact r.ex b o q
      fg := fun b o q => by
        obtain ⟨f1, f2, f3⟩ := r.fg b o q
        have hb : b ≠ dx := fun z => by rw [z, gd] at q; cases q
        exact ⟨f1, by show upd g.h dx _ b = none; rw [upd_ne hb]; exact f2, f3⟩
      len := r.len
      rl := r.rl
      sl := fun i c q hc => by
        obtain ⟨v, q1, q2⟩ := r.sl i c q hc
        exact ⟨v, q1, q2.le le⟩
      ob := fun l o q hl => by
        obtain ⟨b, u, q1, q2, q3, q4⟩ := r.ob l o q hl
        have hb : b ≠ dx := fun z => by
          rw [z, h2] at q2
          cases q2
          cases q3
        exact ⟨b, u, q1, q2, q3.le le, by show upd g.h dx _ b = none; rw [upd_ne hb]; exact q4⟩
      nd := r.nd
      al := r.al
      nt := r.nt
      gx := r.gx
      fz := fun l o q hz => by
        obtain ⟨b, o', vs', f1, f2, f3⟩ := r.fz l o q hz
        exact ⟨b, o', vs', f1, en _ _ f2, f3.le le⟩ }
section
variable {X : Cx} {E : XQ} {x n : Str} {c : Value} {i : Nat} {body suite : List Stmt} {b₀ : Stmt} {np pos pos' : Pos} {mb : M Fl} {ms : Exn → M Fl} {hit : Str → Option Bool}
/-- what the suite leaves behind it -/
def endAs (i : Nat) : Res Fl → Res Fl
  | .ok fl δ => .ok fl ⟨δ.e.set i .no, δ.s⟩
  | _ => .bad
def mTryAs (i : Nat) (hit : Str → Option Bool) (mb : M Fl) (ms : Exn → M Fl) : M Fl := fun δ => match mb δ with
  | .ok fl δ' => .ok fl δ'
  | .bad => .bad
  | .exc y δ' => match hit y.cls with
    | some true => if i < δ'.e.length then endAs i (ms y ⟨δ'.e.set i .no, δ'.s⟩) else .bad
    | some false => .exc y δ'
    | none => .bad
theorem RE.hush {K : Frag} {G : Hp} {g : Gh} {H : Hp} {σ : L2.St} {δ : Sx} {o : Option V} (r : RE K G g H σ δ) (i : Nat) : RE K G g H (σ.set i o) ⟨δ.e.set i .no, δ.s⟩ :=
  r.slots (by rw [List.length_set, List.length_set]; exact r.len) fun j d q hd => by
    rcases setGet q with ⟨rfl, z⟩ | ⟨hj, z⟩
    · exact absurd z hd
    · rw [List.getElem?_set_ne (Ne.symm hj)]
      exact r.sl j d z hd
theorem js_tryAs (hs : X.stack = X.env :: X.outer) (hf : X.env.frame = some X.env.locals) (hN : X.N.Nodup) (hi : X.N[i]? = some n) (hln : X.env.kindOf n = some .local) (hc : Names X x c) (tk : Takes X (wX X.K E))
    (hh : ∀ z b C, hit z = some b → clsA X.K z = some C → PySem.W.exmOne X.K (.ref C) c = some b)
    (hb : ∀ (W : XQ) (pn : List (Addr × Obj)) (xe : Value → Shared → Prop), Takes (X.tr pn xe) (wX X.K W) → PassesOwn (model X.prog X.w) X.A X.env xe → PSs (X.tr pn xe) body (tOfS X.K W mb))
    (hsu : ∀ (y : Exn) (C a : Addr) (oe : Obj) (d : Option Addr) (pn : List (Addr × Obj)), clsA X.K y.cls = some C → (y.num = none → d = none) → Zc (.ref C) d oe → (∃ vs, oe.data = .fields vs) → PSs (X.suite a ((a, oe) :: pn)) (b₀ :: suite) (tKS X.K i a y.num d (ms y))) :
    PS X (.Try body [.ExceptHandler (some (.Name x np)) (some n) (b₀ :: suite) pos'] [] [] pos) (tOfS X.K E (mTryAs i hit mb ms)) :=
  pst_imp (ps_try_as hs hf hN hi hln hc tk (tb := fun W => tOfS X.K (xqW X.K W) mb) (ts := fun a cls d B σ H => ∃ y, XR X.K y cls d H ∧ tKS X.K i a y.num d (ms y) B σ H)
    (fun W pn xe t p => hb (xqW X.K W) pn xe (t.imp fun cls d σ H h => wX_W h) p)
    (fun a oe cls d pn hz hv => ⟨fun pins s σ H D I ⟨y, ⟨C, hC, e1, e2⟩, q⟩ => by
      subst e1
      exact (hsu y C a oe d pn hC (fun z => by unfold XD at e2; rw [z] at e2; exact e2) hz hv).run pins s σ H D I q⟩)) fun B σ H ⟨G, g, δ, re, po⟩ => by
    refine ⟨G, g, δ, re, ?_⟩
    unfold mTryAs at po
    cases q : mb δ with
    | ok fl δ1 => rw [q] at po; exact po
    | bad => rw [q] at po; exact po.elim
    | exc y δ1 =>
      rw [q] at po
      dsimp only at po
      intro σ1 g1 H1 e1 r1 cls d xr
      obtain ⟨C, hC, rfl, xd⟩ := xr
      cases hz : hit y.cls with
      | none => rw [hz] at po; exact po.elim
      | some b =>
        rw [hz] at po
        refine ⟨b, hh _ _ _ hz hC, fun hb => ?_, fun hb => ?_⟩
        · subst hb
          dsimp only at po
          intro a ha
          by_cases hlt : i < δ1.e.length
          · rw [if_pos hlt] at po
            obtain ⟨g3, e3, r3, xd3⟩ := (r1.hush (o := some (.ref a)) i).freezeX xd
            refine ⟨y, ⟨C, hC, rfl, xd⟩, List.getElem?_set_self (by rw [r1.len]; exact hlt), G, g3, _, r3, xd3, ?_⟩
            cases qs : ms y ⟨δ1.e.set i .no, δ1.s⟩ with
            | ok fl δ2 =>
              rw [qs] at po
              intro σ2 g2 H2 e2 r2
              have po2 := po (σ2.set i none) g2 H2 (e1.trans (e3.trans e2)) (r2.hush i)
              cases fl with
              | nx => exact fun _ => po2
              | bk => exact fun _ => po2
              | ct => exact fun _ => po2
              | rt c => exact po2
            | exc z δ2 => rw [qs] at po; exact po.elim
            | bad => rw [qs] at po; exact po.elim
          · rw [if_neg hlt] at po; exact po.elim
        · subst hb
          exact ⟨y, ⟨C, hC, rfl, xd⟩, po σ1 g1 H1 e1 r1⟩
end
end Ds
namespace Ds
open PySem PySem.Spec PyProof.Rows L2 Dn
/-- the instance that a suite holds -/
theorem inst_at {X : Cx} {a D : Addr} {oe : Obj} {num : Option Int} {d : Option Addr} {pn pins : List (Addr × Obj)} {σ : L2.St} {H : Hp} {s : Shared} (I : Inv (X.suite a ((a, oe) :: pn)) pins σ H s) (hz : Zc (.ref D) d oe) (hf : ∃ vs, oe.data = .fields vs) (xd : XD num d H) : ∃ od, PySem.W.InstAt s.heap a oe D od := by
  obtain ⟨hget, _⟩ := I.pin (a, oe) (List.mem_append.mpr (.inl List.mem_cons_self))
  obtain ⟨vs, hv⟩ := hf
  cases num with
  | none =>
    have hd : d = none := xd
    subst hd
    obtain ⟨oc, od, oda, osl⟩ := oe
    obtain ⟨h1, h2⟩ := hz
    dsimp only at h1 h2 hv
    subst h1 h2 hv
    exact ⟨none, hget, rfl, rfl, trivial⟩
  | some n =>
    obtain ⟨dx, fs, rfl, hd, _⟩ := xd
    obtain ⟨mA, hns, hr⟩ := (show ObjOk X.prog X.w H s.heap dx (.xd fs) from I.hok dx _ hd)
    obtain ⟨od, ho, hl⟩ := lookIn_ns hns
    exact ⟨some od, hget, hz.1, by unfold PySem.W.notCls; rw [hv] <;> rfl, by rw [hz.2]; exact ho⟩
def rIsEX (K : PySem.W.Frag) (D a : Addr) (num : Option Int) (d : Option Addr) : List V → Hp → VK → Prop := fun xs H Q => ∃ (c : V) (cv : Value) (b : Bool), xs = [.ref a, c] ∧ XD num d H ∧ ClsV c cv ∧ PySem.W.kitOne K (.ref D) cv = some b ∧ Q (.bl b) H
theorem ExcC.cl {K : Frag} {D : Addr} (C : ExcC K D) : (PySem.W.clsIn K D).isSome = true := by
  obtain ⟨cd, hc, _⟩ := PySem.W.any_some C.hd
  rw [hc]; rfl
section
variable {X : Cx} {a D : Addr} {oe : Obj} {num : Option Int} {d : Option Addr} {pn : List (Addr × Obj)}
theorem call_isEX (C : ExcC X.K D) (hz : Zc (.ref D) d oe) (hf : ∃ vs, oe.data = .fields vs) : CallR (X.suite a ((a, oe) :: pn)) (.builtin "isinstance") (rIsEX X.K D a num d) := by
  intro pins s σ H xs us Q I r h
  obtain ⟨c, cv, b, rfl, xd, k, e, q⟩ := h
  obtain ⟨u1, u2, rfl, r1, r2⟩ := vals2 r
  cases (show u1 = Value.ref a from r1)
  have e2 := k.eq r2
  subst e2
  obtain ⟨od, J⟩ := inst_at I hz hf xd
  exact PySem.W.kia_one (PySem.W.kitx_exc (ExcC.cl C) C.hg C.hk C.hs C.ha C.hn C.ht C.hm) I.kIn J e (fun z => nomatch z) fun tk => ⟨.bl b, H, I.kept (t' := tk) fun _ _ z => z, rfl, q⟩
def mIsB (o : Option Bool) : M Dn.D := mOpt (o.map PyData.bool)
variable {i : Nat} {n : Str} {p p1 p2 pos : Pos} {cv : V} {cu : Value} {ec : Expr} {es : List Expr} {t : TA} {cs : List V} {us : List Value} {o : Option Bool} {xc : Nat}
theorem jk_isE (C : ExcC X.K D) (hz : Zc (.ref D) d oe) (hf : ∃ vs, oe.data = .fields vs) (hg : Gl X "isinstance") (hm : X.mg "isinstance" = none) (hN : X.N[i]? = some n) (hv : Vis X.env.scope n) (hc : PE (X.suite a ((a, oe) :: pn)) ec (tC cv)) (hk : ClsV cv cu) (ho : ∀ b, o = some b → PySem.W.kitOne X.K (.ref D) cu = some b)
    (hd : (n == ("__debug__" : Str)) = false := by decide) (hcd : (n == ("__classdict__" : Str)) = false := by decide)
    (he : starEach [.Name n p1, ec] X.env = (false, eval (.Name n p1) X.env) :: starEach [ec] X.env := by rfl) (he2 : starEach [ec] X.env = (false, eval ec X.env) :: starEach [] X.env := by rfl) (hpl : (backTo pos (starEach [ec] X.env)).any (·.1) = false := by rfl) :
    PE (X.suite a ((a, oe) :: pn)) (.Call (.Name "isinstance" p) [.Name n p1, ec] [] pos) (tKD X.K i a num d (mIsB o)) :=
  pe_imp (pe_callB (call_isEX (num := num) C hz hf) hg hm (by decide +kernel) (pa_cons (pe_var (X := X.suite a ((a, oe) :: pn)) hN hv hd hcd) (pa_cons hc pa_nil he2) he) (by decide) (by decide) he hpl) fun σ H Q ⟨hs, G, g, δ, re, xd, po⟩ => by
    obtain ⟨c, hc2, po2⟩ := Post.opt po
    obtain ⟨b, hb, rfl⟩ := Option.map_eq_some_iff.mp hc2
    exact ⟨.ref a, hs, cv, cu, b, rfl, xd.ex re.ex, hk, ho b hb, Post.of po2 re _ (.bl b)⟩
/-- e.number -/
def mNum (num : Option Int) : M Dn.D := mOpt (num.map PyData.int)
end
end Ds
namespace Ds
open PySem PySem.Spec PyProof.Rows L2 Dn
/-- raise C(n) -/
def mRaiseN (x : Str) (m : M D) : M Fl := mBind m fun d δ => match d with
  | .int n => .exc ⟨x, some n⟩ δ
  | _ => .bad
end Ds
namespace Ds
open PySem PySem.Spec PyProof.Rows L2 Dn
/-- nothing leaves where nothing is let out -/
theorem takesNo {X : Cx} : Takes X (wX X.K noX) := takes0.imp fun c d σ H h => by
  obtain ⟨y, _, z⟩ := h
  exact z
section
variable {X : Cx} {i : Nat} {a C Cz : Addr} {oe : Obj} {d : Option Addr} {pn : List (Addr × Obj)} {body : List Stmt} {y : Exn} {z : Str}
/-- a suite's run, class by class -/
def msIf (z : Str) (m1 : Option Int → M Fl) (m2 : Exn → M Fl) : Exn → M Fl := fun y => if y.cls = z then m1 y.num else m2 y
def msBad : Exn → M Fl := fun _ _ => .bad
theorem suite_if {m1 : Option Int → M Fl} {m2 : Exn → M Fl} (hcl : clsA X.K z = some Cz) (hC : clsA X.K y.cls = some C) (hz : Zc (.ref C) d oe) (h1 : Zc (.ref Cz) d oe → PSs (X.suite a ((a, oe) :: pn)) body (tKS X.K i a y.num d (m1 y.num))) (h2 : PSs (X.suite a ((a, oe) :: pn)) body (tKS X.K i a y.num d (m2 y))) :
    PSs (X.suite a ((a, oe) :: pn)) body (tKS X.K i a y.num d (msIf z m1 m2 y)) := by
  unfold msIf
  split
  · rename_i hy
    rw [hy, hcl] at hC
    cases hC
    exact h1 hz
  · exact h2
theorem suite_bad : PSs (X.suite a ((a, oe) :: pn)) body (tKS X.K i a y.num d (msBad y)) := ⟨fun pins s σ H D I h => by
  obtain ⟨_, _, _, _, _, _, po⟩ := h
  exact po.elim⟩
end
/-- the table of what a clause catches: the classes named -/
def hitOf (l : List (Str × Bool)) (z : Str) : Option Bool := match l with
  | [] => none
  | (x, b) :: r => if x = z then some b else hitOf r z
def hitB (K : Frag) (c : Value) (l : List (Str × Bool)) : Bool := l.all fun p => match clsA K p.1 with
  | some C => decide (PySem.W.exmOne K (.ref C) c = some p.2)
  | none => false
theorem hitB_nil {K : Frag} {c : Value} : hitB K c [] = true := rfl
theorem hitB_cons {K : Frag} {c : Value} {z : Str} {b : Bool} {r : List (Str × Bool)} {C : Addr} (h1 : clsA K z = some C) (h2 : PySem.W.exmOne K (.ref C) c = some b) (h3 : hitB K c r = true) : hitB K c ((z, b) :: r) = true := by
  unfold hitB
  rw [List.all_cons, Bool.and_eq_true]
  refine ⟨?_, h3⟩
  dsimp only
  rw [h1]
  exact decide_eq_true h2
theorem hit_ok {K : Frag} {c : Value} {l : List (Str × Bool)} (h : hitB K c l = true) : ∀ z b C, hitOf l z = some b → clsA K z = some C → PySem.W.exmOne K (.ref C) c = some b := by
  intro z b C
  induction l with
  | nil => intro h1; cases h1
  | cons p r ih =>
    obtain ⟨x, k⟩ := p
    intro h1 h2
    unfold hitB at h
    rw [List.all_cons, Bool.and_eq_true] at h
    obtain ⟨q1, q2⟩ := h
    unfold hitOf at h1
    split at h1
    · rename_i hx
      cases h1
      subst hx
      dsimp only at q1
      rw [h2] at q1
      exact of_decide_eq_true q1
    · exact ih q2 h1 h2
end Ds
namespace Dn
open PySem PySem.Spec PyProof.Rows L2
section
variable {X : Cx} {E : XQ} {ps : List Nat} {tg e elt iter : Expr} {ifs : List Expr} {pos : Pos} {vs gv : List Nat} {mi : M (List D)} {g : D → M Unit} {mt : M Bool} {me : M D}
/-- what a comprehension's block makes, read off its parts -/
theorem lc_read (hgv : ∀ i ∈ gv, i ∈ vs) (hps : ∀ i ∈ vs, i ∉ ps) {σ : L2.St} {H : Hp} {Q : VK} (h : tOfO X.K E ps (mComp mi vs g mt me) σ H Q) :
    tLc (tOfI X.K E ps mi) (gOf X.K noX ps gv g) (tOfT X.K noX ps mt) (tOf X.K noX ps me) vs σ H Q := by
  obtain ⟨W, Hs, δ, hp, re, po⟩ := h
  have hpn : ∀ i ∈ vs, i ∉ W.pn.map (·.1) := fun i hi => by rw [hp]; exact hps i hi
  refine Cf.step hp re po fun ds Hs1 H1 δ1 e1 re1 po1 J hJ C hC => ?_
  unfold compE at po1
  split at po1
  · rename_i hcond
    obtain ⟨hno', hlen⟩ := hcond
    have hno : ∀ i ∈ vs, (δ1.getD i .no).own = false := fun i hi => by
      have := List.all_eq_true.mp hno' i hi
      simpa using this
    cases hcl : compL vs g mt me ds (wipeE δ1 vs) with
    | ok ys δf =>
      rw [hcl] at po1
      have en : Ex H1 (upd H1 C (.lst [])) := ex_new hC
      have gC : W.G C = none := by
        cases q : W.G C with
        | none => rfl
        | some u => have := (re1.fg C u q).1; rw [hC] at this; cases this
      have re2 := (re1.newH en).wipe (vs := vs) hpn
      have f0 : FrO X.K W Hs1 (upd H1 C (.lst [])) (wipe σ vs) (wipeE δ1 vs) C [] := ⟨⟨[], upd_same, .nil⟩, ex_none re1.ex hC, gC, fun i s q w z => by
        obtain ⟨a, o, h1, h2, _⟩ := (re1.wipe (vs := vs) hpn).ow i s q w
        rw [h1] at z
        cases z
        rw [hC] at h2; cases h2⟩
      refine ⟨fun i m H' => m = ds.length - i ∧ i ≤ ds.length ∧ ∃ Hs2 δ2 done ys2, Ex Hs1 Hs2 ∧ RE X.K W Hs2 H' (wipe σ vs) δ2 ∧ FrO X.K W Hs2 H' (wipe σ vs) δ2 C done ∧ done.length ≤ i ∧ compL vs g mt me (ds.drop i) δ2 = .ok ys2 δf ∧ done ++ ys2 = ys,
        ⟨ds.length, rfl, Nat.zero_le _, Hs1, _, [], ys, Ex.refl _, re2, f0, Nat.le_refl _, hcl, rfl⟩, ?_⟩
      rintro i m H' ⟨hm, hi, Hs2, δ2, done, ys2, e2, re3, f3, hdl, hc3, hys⟩
      obtain ⟨j1, j2⟩ := hJ Hs2 H' e2 re3.ex i
      by_cases hlt : i < ds.length
      · have hd : ds[i]? = some ds[i] := List.getElem?_eq_getElem hlt
        obtain ⟨g1, g2⟩ := j1 _ hd
        refine .inr ⟨g1, fun H3 => ∃ Hs3 δ3 done ys2, Ex Hs1 Hs3 ∧ RE X.K W Hs3 H3 (wipe σ vs) δ3 ∧ FrO X.K W Hs3 H3 (wipe σ vs) δ3 C done ∧ done.length ≤ i + 1 ∧ compL vs g mt me (ds.drop (i + 1)) δ3 = .ok ys2 δf ∧ done ++ ys2 = ys,
          fun H3 hN => ⟨ds.length - (i + 1), by omega, rfl, hlt, hN⟩, fun x H3 y => ?_⟩
        obtain ⟨Hs3, gr, rx⟩ := g2 x H3 y
        obtain ⟨acc, ha, hr⟩ := f3.at_
        have re4 := re3.grow gr
        have f4 : FrO X.K W Hs3 H3 (wipe σ vs) δ2 C done := ⟨⟨acc, gr.h C _ ha, hr.ex gr.s⟩, by rw [gr.f C (by rw [ha]; simp)]; exact f3.hs, f3.g, f3.ne⟩
        have re5 := re4.hide f4 (gr.h C _ ha)
        rw [List.drop_eq_getElem_cons hlt] at hc3
        unfold compL at hc3
        have hp' : ({ W with G := upd W.G C (.lst acc) } : Wd).pn.map (·.1) = ps := hp
        refine ⟨{ W with G := upd W.G C (.lst acc) }, Hs3, δ2, ds[i], hp', re5, rx, ?_⟩
        cases q : g ds[i] δ2 with
        | ok u δ4 =>
          rw [q] at hc3
          refine fun σ4 Hs4 H4 e4 re6 of4 => ⟨wipe_off of4 hgv, ?_⟩
          dsimp only at hc3
          -- a turn's end: the names wiped, the list as it is then
          have turn : ∀ {Hs5 H5 : Hp} {δ5 : Env} {u : HO}, RE X.K { W with G := upd W.G C (.lst acc) } Hs5 H5 σ4 δ5 → RE X.K W Hs5 (upd H5 C u) (wipe σ vs) (wipeE δ5 vs) ∧ (∀ (i : Nat) (s : Sl), (wipeE δ5 vs)[i]? = some s → s.own = true → (wipe σ vs)[i]? ≠ some (some (V.ref C))) ∧ Hs5 C = none ∧ H5 C = some (.lst acc) := fun {Hs5 H5 δ5 u} re7 => by
            have rw7 := re7.wipe (vs := vs) hpn
            rw [wipe_off of4 hgv] at rw7
            have hf := re7.fg C (.lst acc) (by show upd W.G C _ C = _; rw [upd_same])
            exact ⟨rw7.shown f3.g, rw7.hidden, hf.2, hf.1⟩
          refine ⟨_, Hs4, δ4, hp', re6, ?_⟩
          cases zt : mt δ4 with
          | ok b δ5 =>
            rw [show mBind mt _ δ4 = _ from by unfold mBind; rw [zt]] at hc3
            dsimp only at hc3
            refine fun Hs5 H5 e5 re7 => ?_
            cases b with
            | true =>
              rw [if_pos rfl] at hc3 ⊢
              refine ⟨_, Hs5, δ5, hp', re7, ?_⟩
              cases ze : me δ5 with
              | ok yv δ6 =>
                rw [ze] at hc3
                refine fun Hs6 H6 e6 re8 v rv => ?_
                obtain ⟨t1, t2, t3, t4⟩ := turn (u := .lst (acc ++ [v])) re8
                have hal : acc.length = done.length := hr.length
                refine ⟨acc, t4, by omega, ?_⟩
                have hc4 : mBind (compL vs g mt me (ds.drop (i + 1))) (fun ys => mPure (yv :: ys)) (wipeE δ6 vs) = .ok ys2 δf := hc3
                cases zr : compL vs g mt me (ds.drop (i + 1)) (wipeE δ6 vs) with
                | ok ys3 δ7 =>
                  unfold mBind at hc4
                  rw [zr] at hc4
                  have hc5 : Res.ok (yv :: ys3) δ7 = Res.ok ys2 δf := hc4
                  injection hc5 with k1 k2
                  subst k1; subst k2
                  have e16 : Ex Hs1 Hs6 := (((e2.trans gr.s).trans e4).trans e5).trans e6
                  exact ⟨Hs6, _, done ++ [yv], ys3, e16, t1, ⟨⟨acc ++ [v], upd_same, (hr.ex (((gr.s).trans e4).trans (e5.trans e6))).snoc rv⟩, t3, f3.g, t2⟩, by simp; exact hdl, zr, by rw [← hys]; simp⟩
                | exc x δ7 => unfold mBind at hc4; rw [zr] at hc4; cases hc4
                | bad => unfold mBind at hc4; rw [zr] at hc4; cases hc4
              | exc x δ6 => rw [ze] at hc3; cases hc3
              | bad => rw [ze] at hc3; cases hc3
            | false =>
              rw [if_neg Bool.false_ne_true] at hc3 ⊢
              obtain ⟨t1, t2, t3, t4⟩ := turn (u := .lst acc) re7
              have hu : upd H5 C (.lst acc) = H5 := by
                funext b
                by_cases hb : b = C
                · subst hb; rw [upd_same, t4]
                · rw [upd_ne hb]
              rw [hu] at t1
              have hc4 : compL vs g mt me (ds.drop (i + 1)) (wipeE δ5 vs) = .ok ys2 δf := hc3
              exact ⟨Hs5, _, done, ys2, ((e2.trans gr.s).trans e4).trans e5, t1, ⟨⟨acc, t4, hr.ex ((gr.s.trans e4).trans e5)⟩, t3, f3.g, t2⟩, by omega, hc4, hys⟩
          | exc x δ5 => rw [show mBind mt _ δ4 = _ from by unfold mBind; rw [zt]] at hc3; cases hc3
          | bad => rw [show mBind mt _ δ4 = _ from by unfold mBind; rw [zt]] at hc3; cases hc3
        | exc x δ4 => rw [q] at hc3; cases hc3
        | bad => rw [q] at hc3; cases hc3
      · have ei : i = ds.length := by omega
        subst ei
        rw [List.drop_length] at hc3
        have hc4 : Res.ok ([] : List D) δ2 = Res.ok ys2 δf := hc3
        injection hc4 with k1 k2
        subst k1; subst k2
        rw [List.append_nil] at hys
        subst hys
        refine .inl ⟨j2 (List.getElem?_eq_none_iff.mpr (Nat.le_refl _)), ?_⟩
        have rb := re1.back re3 e2 hno hpn
        refine po1 Hs2 H' e2 rb C ⟨f3.at_, f3.hs, f3.g, fun i s q w => ?_⟩
        by_cases hi' : i ∈ vs
        · have z := backE_in hi' q
          rw [z, hno i hi'] at w
          cases w
        · rw [backE_out hi'] at q
          rw [← wipe_out hi']
          exact f3.ne i s q w
    | exc x δf => rw [hcl] at po1; exact po1.elim
    | bad => rw [hcl] at po1; exact po1.elim
  · exact po1.elim
theorem jts_nil : PTs X [] (tOfT X.K E ps mYes) := ⟨fun pins s σ H Q I ⟨W, Hs, δ, hp, re, po⟩ => pts_nil.run pins s σ H Q I (Post.of po re)⟩
theorem jts_one {c : Expr} (h : PT X c (tOfT X.K E ps mt)) : PTs X [c] (tOfT X.K E ps mt) := pts_one h
theorem jo_comp {scope : Scope} {own : List (Str × Nat)} (hgv : ∀ i ∈ gv, i ∈ own.map (·.2)) (hps : ∀ i ∈ own.map (·.2), i ∉ ps) (hc : X.calm = true) (hN : X.N.Nodup) (hi : PI X tg iter (tOfI X.K E ps mi)) (ok : BlkOk X.N X.env.scope scope own)
    (hg : ∀ (s : Shared) (H : Hp) (C : Addr) (cl : List (Str × Addr)) (fp : List Addr), PG (X.blk s H scope (compEnvC scope cl C X.env) fp) tg (gOf X.K noX ps gv g)) (ht : ∀ (s : Shared) (H : Hp) (C : Addr) (cl : List (Str × Addr)) (fp : List Addr), PTs (X.blk s H scope (compEnvC scope cl C X.env) fp) ifs (tOfT X.K noX ps mt))
    (he : ∀ (s : Shared) (H : Hp) (C : Addr) (cl : List (Str × Addr)) (fp : List Addr), PE (X.blk s H scope (compEnvC scope cl C X.env) fp) elt (tOf X.K noX ps me)) (hs : ∀ x, foldedSetIterable iter X.env x = pure x := by intro _; rfl) :
    PE X (.ListComp elt [⟨tg, iter, ifs, 0⟩] scope pos) (tOfO X.K E ps (mComp mi (own.map (·.2)) g mt me)) :=
  pe_imp (pe_lc hc hN hi ok hg ht he hs) fun σ H Q h => lc_read hgv hps h
/-- shared data at last -/
def mFr (m : M (List D)) : M D := mBind m fun xs => mPure (.list xs)
theorem frS {m : M (List D)} {σ : L2.St} {H : Hp} {Q : VK} (h : tOf X.K E ps (mFr m) σ H Q) : tOfO X.K E ps m σ H Q := by
  obtain ⟨W, Hs, δ, hp, re, po⟩ := h
  refine Cf.step hp re po fun xs Hs1 H1 δ1 e1 re1 po1 a fa => ?_
  obtain ⟨Hs2, k1, k2, k3⟩ := re1.freeze fa
  exact po1 Hs2 H1 k1 k2 _ k3
theorem je_fr {m : M (List D)} (h : PE X e (tOfO X.K E ps m)) : PE X e (tOf X.K E ps (mFr m)) := pe_imp h fun σ H Q q => frS q
theorem js_lc {i : Nat} {y : Str} {py : Pos} {scope : Scope} {own : List (Str × Nat)} {spos : Pos} (hips : i ∉ ps) (hgv : ∀ i ∈ gv, i ∈ own.map (·.2)) (hps : ∀ i ∈ own.map (·.2), i ∉ ps) (hc : X.calm = true) (hN : X.N.Nodup) (hy : X.N[i]? = some y) (hyl : X.env.scope.names.lookup y = some .local)
    (hsw : swapsWith (.ListComp elt [⟨tg, iter, ifs, 0⟩] scope pos) (some (.Name y py)) spos.line X.env = pure true) (hi : PI X tg iter (tOfI X.K E ps mi)) (ok : BlkOk X.N X.env.scope scope own)
    (hg : ∀ (s : Shared) (H : Hp) (C : Addr) (cl : List (Str × Addr)) (fp : List Addr), PG (X.blk s H scope (compEnvC scope cl C X.env) fp) tg (gOf X.K noX ps gv g)) (ht : ∀ (s : Shared) (H : Hp) (C : Addr) (cl : List (Str × Addr)) (fp : List Addr), PTs (X.blk s H scope (compEnvC scope cl C X.env) fp) ifs (tOfT X.K noX ps mt))
    (he : ∀ (s : Shared) (H : Hp) (C : Addr) (cl : List (Str × Addr)) (fp : List Addr), PE (X.blk s H scope (compEnvC scope cl C X.env) fp) elt (tOf X.K noX ps me)) (hs : ∀ x, foldedSetIterable iter X.env x = pure x := by intro _; rfl) :
    PS X (.Assign [.Name y py] (.ListComp elt [⟨tg, iter, ifs, 0⟩] scope pos) spos) (tOfS X.K E ps (mSet i (mFr (mComp mi (own.map (·.2)) g mt me)))) :=
  pst_imp (ps_setLc hc hN hy hyl hsw hi ok hg ht he hs) fun B σ H ⟨W, Hs, δ, hp, re, po⟩ => lc_read hgv hps (by
    have po' : PostF X.K E W Hs (mBind (mComp mi (own.map (·.2)) g mt me) (fun xs => fun δ => .ok .nx (δ.set i (.sh (.list xs)))) δ) B := by
      have e : mSet i (mFr (mComp mi (own.map (·.2)) g mt me)) δ = mBind (mComp mi (own.map (·.2)) g mt me) (fun xs => fun δ => .ok .nx (δ.set i (.sh (.list xs)))) δ := by
        unfold mSet mFr mBind mPure
        cases mComp mi (own.map (·.2)) g mt me δ <;> rfl
      rw [← e]; exact po
    refine tOfO.stepS hp re po' fun a xs Hs1 H1 δ1 e1 re1 f1 po1 => ?_
    obtain ⟨Hs2, k1, k2, k3⟩ := re1.freeze f1
    exact PostS.of (PostS.ex po1 k1) (k2.setSh k3 (by rw [hp]; exact hips)))
end
end Dn
namespace Dn
open PySem PySem.Spec PyProof.Rows L2
/-- what is left of the slots behind a def: a caller's own lists -/
def outs (ps : List Nat) (n : Nat) (δ : Env) : Env := (List.range n).map fun i => if i ∈ ps then δ.getD i .no else .no
def fnF (n N : Nat) (ps : List Nat) (mb : M Fl) : Env → Res Sl := fun as => match mb (as ++ List.replicate (N - n) .no) with
  | .ok (.rt s) δ' => .ok s (outs ps n δ')
  | .ok .nx δ' => .ok (.sh .none) (outs ps n δ')
  | .exc x δ' => .exc x (outs ps n δ')
  | _ => .bad
def RetR (K : Frag) (W : Wd) (Hs H : Hp) (σ : L2.St) (δ : Env) (s : Sl) (Q : VK) : Prop := match s with
  | .sh d => ∀ v, Rp K Hs v d → Q v H
  | .ow xs => ∀ a, FrO K W Hs H σ δ a xs → Q (.ref a) H
  | .no => False
/-- what a def promises: F, upon what its parameters hold -/
def spF (K : Frag) (n : Nat) (ps : List Nat) (F : Env → Res Sl) : Sp := fun vs H Q E => vs.length = n ∧ ∃ (W : Wd) (Hs : Hp) (as : Env), W.pn.map (·.1) = ps ∧ RE K W Hs H (vs.map some) as ∧
  match F as with
  | .ok s as' => ∀ Hs' H', Ex Hs Hs' → RE K W Hs' H' (vs.map some) as' → RetR K W Hs' H' (vs.map some) as' s Q
  | .exc x as' => False
  | .bad => False
theorem outs_get {ps : List Nat} {n i : Nat} {δ : Env} {s : Sl} (h : (outs ps n δ)[i]? = some s) (hn : s ≠ .no) : i < n ∧ i ∈ ps ∧ δ[i]? = some s := by
  unfold outs at h
  rw [List.getElem?_map, Option.map_eq_some_iff] at h
  obtain ⟨j, hj, h⟩ := h
  obtain ⟨hi, hj⟩ := List.getElem?_eq_some_iff.mp hj
  rw [List.getElem_range] at hj
  subst hj
  rw [List.length_range] at hi
  by_cases hp : i ∈ ps
  · rw [if_pos hp] at h
    refine ⟨hi, hp, ?_⟩
    rw [List.getD_eq_getElem?_getD] at h
    cases w : δ[i]? with
    | none => rw [w] at h; exact absurd h.symm hn
    | some t => rw [w] at h; exact congrArg some h
  · rw [if_neg hp] at h
    exact absurd h.symm hn
section
variable {K : Frag} {W : Wd} {Hs H Hs' H' : Hp} {σ : L2.St} {δ δ' : Env} {vs : List V} {N n : Nat} {as : Env}
theorem RE.app (r : RE K W Hs H σ δ) (k : Nat) : RE K W Hs H (σ ++ List.replicate k none) (δ ++ List.replicate k .no) where
  ex := r.ex
  fg := r.fg
  len := by simp [r.len]
  sh := fun i d q => by
    by_cases hi : i < δ.length
    · rw [List.getElem?_append_left hi] at q
      rw [List.getElem?_append_left (by rw [r.len]; exact hi)]
      exact r.sh i d q
    · rw [List.getElem?_append_right (by omega), List.getElem?_replicate] at q
      split at q <;> cases q
  ow := fun i s q w => by
    by_cases hi : i < δ.length
    · rw [List.getElem?_append_left hi] at q
      rw [List.getElem?_append_left (by rw [r.len]; exact hi)]
      exact r.ow i s q w
    · rw [List.getElem?_append_right (by omega), List.getElem?_replicate] at q
      split at q
      · cases q; cases w
      · cases q
  ap := fun i j s t a h1 h2 h3 h4 h5 h6 => by
    have f : ∀ {i : Nat} {s : Sl}, (δ ++ List.replicate k Sl.no)[i]? = some s → s.own = true → i < δ.length := fun {i s} q w => by
      by_cases hi : i < δ.length
      · exact hi
      · rw [List.getElem?_append_right (by omega), List.getElem?_replicate] at q
        split at q
        · cases q; cases w
        · cases q
    have li := f h1 h2
    have lj := f h3 h4
    rw [List.getElem?_append_left li] at h1
    rw [List.getElem?_append_left lj] at h3
    rw [List.getElem?_append_left (by rw [r.len]; exact li)] at h5
    rw [List.getElem?_append_left (by rw [r.len]; exact lj)] at h6
    exact r.ap i j s t a h1 h2 h3 h4 h5 h6
  pin := fun p hp => by
    obtain ⟨h1, s, h2, h3⟩ := r.pin p hp
    have l1 := (List.getElem?_eq_some_iff.mp h1).1
    have l2 := (List.getElem?_eq_some_iff.mp h2).1
    exact ⟨by rw [List.getElem?_append_left l1]; exact h1, s, by rw [List.getElem?_append_left l2]; exact h2, h3⟩
/-- behind a def's body -/
theorem RE.outs {ps : List Nat} (r0 : RE K W Hs H (vs.map some) as) (hp : W.pn.map (·.1) = ps) (r : RE K W Hs' H' σ δ) : RE K W Hs' H' (vs.map some) (outs ps vs.length δ) := by
  have f : ∀ {i : Nat} {s : Sl}, (Dn.outs ps vs.length δ)[i]? = some s → s ≠ .no → δ[i]? = some s ∧ (vs.map some)[i]? = σ[i]? ∧ s.own = true := fun {i s} q hn => by
    obtain ⟨h1, h2, h3⟩ := outs_get q hn
    rw [← hp] at h2
    obtain ⟨p, hpm, hpe⟩ := List.mem_map.mp h2
    obtain ⟨a1, _⟩ := r0.pin p hpm
    obtain ⟨b1, s', b2, b3⟩ := r.pin p hpm
    rw [hpe] at a1 b1 b2
    rw [h3] at b2
    cases b2
    exact ⟨h3, a1.trans b1.symm, b3⟩
  exact {
    ex := r.ex
    fg := r.fg
    len := by simp [Dn.outs]
    sh := fun i d q => by
      obtain ⟨h1, h2, h3⟩ := f q (by simp)
      cases h3
    ow := fun i s q w => by
      obtain ⟨h1, h2, h3⟩ := f q (by rintro rfl; cases w)
      rw [h2]
      exact r.ow i s h1 w
    ap := fun i j s t a h1 h2 h3 h4 h5 h6 => by
      obtain ⟨a1, a2, _⟩ := f h1 (by rintro rfl; cases h2)
      obtain ⟨b1, b2, _⟩ := f h3 (by rintro rfl; cases h4)
      rw [a2] at h5
      rw [b2] at h6
      exact r.ap i j s t a a1 h2 b1 h4 h5 h6
    pin := fun p hpm => by
      obtain ⟨a1, _⟩ := r0.pin p hpm
      obtain ⟨b1, s', b2, b3⟩ := r.pin p hpm
      refine ⟨a1, s', ?_, b3⟩
      have hl : p.1 < vs.length := by
        have := (List.getElem?_eq_some_iff.mp a1).1
        simpa using this
      unfold Dn.outs
      rw [List.getElem?_map, List.getElem?_range hl]
      have hm : p.1 ∈ ps := by rw [← hp]; exact List.mem_map_of_mem hpm
      simp only [Option.map_some, if_pos hm]
      rw [List.getD_eq_getElem?_getD, b2]
      rfl }
theorem FrO.outs {ps : List Nat} {a : Addr} {xs : List D} (r0 : RE K W Hs H (vs.map some) as) (hp : W.pn.map (·.1) = ps) (r : RE K W Hs' H' σ δ) (f : FrO K W Hs' H' σ δ a xs) : FrO K W Hs' H' (vs.map some) (Dn.outs ps vs.length δ) a xs :=
  ⟨f.at_, f.hs, f.g, fun i s q w => by
    obtain ⟨h1, h2, h3⟩ := outs_get q (by rintro rfl; cases w)
    rw [← hp] at h2
    obtain ⟨p, hpm, hpe⟩ := List.mem_map.mp h2
    obtain ⟨a1, _⟩ := r0.pin p hpm
    obtain ⟨b1, _⟩ := r.pin p hpm
    rw [hpe] at a1 b1
    rw [a1, ← b1]
    exact f.ne i s h3 w⟩
end
section
variable {P : Program} {w : World} {K : Frag} {mg : Str → Option Value} {base : Heap}
/-- a def keeps its promise: by its body as a run upon data -/
theorem fn_J {x qual : Str} {st : Stmt} {f : Addr} {fd : FuncData} {N pr : List Str} {k n nN : Nat} {ps : List Nat} {mb : M Fl} (F : Fun K x qual st f fd) (S : FnScope N pr (defScope st)) (hn : pr.length = n) (hN : N.length = nN) (hle : n ≤ nN)
    (hbody : ∀ (cdv : Value) (A : Around) (outer : List PySem.Env) (s : Shared) (H : Hp) (E : XK), Room k (A.deeper (envOfC qual (defScope st) s.heap.objs.size f cdv)) →
      PSs (cxOf CX0 P w K mg base N qual (defScope st) f cdv A outer s H E).nox (defBody st) (tOfS K noX ps mb)) : FnOk P w K mg base CX0 (k + 1) f fd pr (spF K n ps (fnF n nN ps mb)) := by
  refine F.ok S (fun vs H Q E h => by rw [h.1, hn]) fun cdv A outer s H vs Q E hr h => ⟨_, hbody cdv A outer s H E hr, ?_⟩
  obtain ⟨hl, W, Hs, as, hp, re, po⟩ := h
  have hst : L2.start N vs = vs.map some ++ List.replicate (nN - n) none := by unfold L2.start; rw [hN, hl]
  refine ⟨W, Hs, as ++ List.replicate (nN - n) .no, hp, by rw [hst]; exact re.app _, ?_⟩
  unfold fnF at po
  cases q : mb (as ++ List.replicate (nN - n) .no) with
  | ok fl δ' =>
    rw [q] at po
    cases fl with
    | nx =>
      intro σ' Hs' H' e r
      have hr' := re.outs hp r
      rw [hl] at hr'
      exact po Hs' H' e hr' .non .non
    | rt sl =>
      cases sl with
      | sh d =>
        intro σ' Hs' H' e r v rv
        have hr' := re.outs hp r
        rw [hl] at hr'
        exact po Hs' H' e hr' v rv
      | ow xs =>
        intro σ' Hs' H' e r a fa
        have hr' := re.outs hp r
        have hf := FrO.outs re hp r fa
        rw [hl] at hr' hf
        exact po Hs' H' e hr' a hf
      | no =>
        intro σ' Hs' H' e r
        have hr' := re.outs hp r
        rw [hl] at hr'
        exact po Hs' H' e hr'
    | bk => exact po.elim
    | ct => exact po.elim
  | exc x δ' => rw [q] at po; exact po.elim
  | bad => rw [q] at po; exact po.elim
end
def agSl (δ : Env) : Ag → Sl
  | .sh d => .sh d
  | .ow i => δ.getD i .no
def ownAt : Nat → List Ag → List Nat
  | _, [] => []
  | k, .sh _ :: gs => ownAt (k + 1) gs
  | k, .ow _ :: gs => k :: ownAt (k + 1) gs
def ownIx : List Ag → List Nat
  | [] => []
  | .sh _ :: gs => ownIx gs
  | .ow i :: gs => i :: ownIx gs
def putBack (δ : Env) : List Ag → List Sl → Env
  | .ow i :: gs, s :: ss => (putBack δ gs ss).set i s
  | .sh _ :: gs, _ :: ss => putBack δ gs ss
  | _, _ => δ
def callF (n : Nat) (ps : List Nat) (F : Env → Res Sl) (gs : List Ag) : M Sl := fun δ =>
  if gs.length = n ∧ ownAt 0 gs = ps ∧ (ownIx gs).Nodup ∧ ((ownIx gs).all fun i => (δ.getD i .no).own) = true then
    match F (gs.map (agSl δ)) with
    | .ok s as' => .ok s (putBack δ gs as')
    | _ => .bad
  else .bad
def mCall (n : Nat) (ps : List Nat) (F : Env → Res Sl) (as : List AM) : M Sl := mBind (evA as) (callF n ps F)
end Dn
namespace Dn
open PySem PySem.Spec PyProof.Rows L2
theorem AgR.len {K : Frag} {Hs : Hp} {σ : L2.St} : ∀ {vs : List V} {gs : List Ag}, AgR K Hs σ vs gs → vs.length = gs.length
  | [], [], _ => rfl
  | [], _ :: _, h => h.elim
  | _ :: _, [], h => h.elim
  | _ :: _, .sh _ :: _, h => by rw [List.length_cons, List.length_cons, AgR.len h.2]
  | _ :: _, .ow _ :: _, h => by rw [List.length_cons, List.length_cons, AgR.len h.2]
section
open Classical
variable {K : Frag} {W : Wd} {Hs H : Hp} {σ : L2.St} {δ : Env} {vs : List V} {gs : List Ag}
/-- what a callee is not to touch -/
def Held (W : Wd) (σ : L2.St) (δ : Env) (gs : List Ag) (a : Addr) : Prop := W.G a ≠ none ∨ ∃ (i : Nat) (s : Sl), δ[i]? = some s ∧ s.own = true ∧ i ∉ ownIx gs ∧ σ[i]? = some (some (V.ref a))
end
section
variable {X : Cx} {E : XQ} {ps : List Nat} {e : Expr} {es : List Expr} {pos : Pos} {as : List AM} {k n : Nat} {f : Addr} {fd : FuncData} {pr : List Str} {qs : List Nat} {F : Env → Res Sl} {x : Str} {p : Pos}
theorem bind_assoc {α β γ : Type} (m : M α) (f : α → M β) (g : β → M γ) : mBind (mBind m f) g = mBind m fun a => mBind (f a) g := by
  funext δ
  unfold mBind
  cases m δ <;> rfl
end
end Dn
namespace Dn
open PySem PySem.Spec PyProof.Rows L2
@[irreducible] def Run {α : Type} (m : M α) (δ : Env) (Q : α → Env → Prop) : Prop := match m δ with
  | .ok a δ' => Q a δ'
  | _ => False
@[irreducible] def FRun (F : Env → Res Sl) (as : Env) (Q : Sl → Env → Prop) : Prop := match F as with
  | .ok s as' => Q s as'
  | _ => False
section
variable {α β : Type} {δ δ1 : Env} {m : M D}
theorem Run.i {m : M α} {Q : α → Env → Prop} (h : match m δ with
  | .ok a δ' => Q a δ'
  | _ => False) : Run m δ Q := by unfold Run; exact h
theorem run_pure {a : α} {Q : α → Env → Prop} (h : Q a δ) : Run (mPure a) δ Q := Run.i h
theorem Run.mono {m : M α} {Q Q' : α → Env → Prop} (h : Run m δ Q) (k : ∀ a e, Q a e → Q' a e) : Run m δ Q' := by
  unfold Run at *
  cases q : m δ with
  | ok a e => rw [q] at h; exact k a e h
  | exc x e => rw [q] at h; exact h
  | bad => rw [q] at h; exact h
theorem FRun.mono {F : Env → Res Sl} {as : Env} {Q Q' : Sl → Env → Prop} (h : FRun F as Q) (k : ∀ a e, Q a e → Q' a e) : FRun F as Q' := by
  unfold FRun at *
  cases q : F as with
  | ok a e => rw [q] at h; exact k a e h
  | exc x e => rw [q] at h; exact h
  | bad => rw [q] at h; exact h
theorem FRun.of {F : Env → Res Sl} {as as' : Env} {s : Sl} {Q : Sl → Env → Prop} (h : F as = .ok s as') (k : Q s as') : FRun F as Q := by
  unfold FRun
  rw [h]
  exact k
theorem FRun.to {F : Env → Res Sl} {as : Env} {Q : Sl → Env → Prop} (h : FRun F as Q) : ∃ s as', F as = .ok s as' ∧ Q s as' := by
  unfold FRun at h
  cases q : F as with
  | ok a e => rw [q] at h; exact ⟨a, e, rfl, h⟩
  | exc x e => rw [q] at h; exact h.elim
  | bad => rw [q] at h; exact h.elim
theorem run_bind {m : M α} {f : α → M β} {Q : β → Env → Prop} (h : Run m δ fun a e => Run (f a) e Q) : Run (mBind m f) δ Q := by
  unfold Run at *
  unfold mBind
  cases q : m δ with
  | ok a e => rw [q] at h; exact h
  | exc x e => rw [q] at h; exact h
  | bad => rw [q] at h; exact h
theorem run_opt {o : Option α} {Q : α → Env → Prop} (h : ∃ a, o = some a ∧ Q a δ) : Run (mOpt o) δ Q := by
  obtain ⟨a, h1, h2⟩ := h
  subst h1
  exact Run.i h2
theorem run_var {i : Nat} {d : D} {Q : D → Env → Prop} (h : δ[i]? = some (Sl.sh d)) (k : Q d δ) : Run (mVar i) δ Q := by
  unfold Run mVar
  rw [h]
  exact k
theorem run_c {d : D} {Q : D → Env → Prop} (k : Q d δ) : Run (mC d) δ Q := run_pure k
theorem run_own {i : Nat} {xs : List D} {Q : List D → Env → Prop} (h : δ[i]? = some (Sl.ow xs)) (k : Q xs δ) : Run (mOwn i) δ Q := by
  unfold Run mOwn
  rw [h]
  exact k
theorem run_bin {g : D → D → Option D} {ma mb : M D} {Q : D → Env → Prop} (h : Run ma δ fun d e1 => Run mb e1 fun e e2 => ∃ c, g d e = some c ∧ Q c e2) : Run (mBin g ma mb) δ Q :=
  run_bind (h.mono fun _ _ h => run_bind (h.mono fun _ _ h => run_opt h))
theorem run_test {Q : Bool → Env → Prop} (h : Run m δ fun d e => ∃ b, toB d = some b ∧ Q b e) : Run (mTest m) δ Q := run_bind (h.mono fun _ _ h => run_opt h)
theorem run_chain {g g' : D → D → Option D} {ma mb mc : M D} {Q : D → Env → Prop} (h : Run ma δ fun d e1 => Run mb e1 fun e e2 => ∃ c, g d e = some c ∧ ∃ b, toB c = some b ∧ (b = true → Run mc e2 fun f e3 => ∃ c, g' e f = some c ∧ Q c e3) ∧ (b = false → Q (.bool false) e2)) : Run (mChain g g' ma mb mc) δ Q :=
  run_bind (h.mono fun d _ h => run_bind (h.mono fun e _ ⟨c, h1, b, h2, h3, h4⟩ => run_bind (run_opt ⟨b, by rw [h1]; exact h2, by
    cases b with
    | true => exact run_bind ((h3 rfl).mono fun _ _ h => run_opt h)
    | false => exact run_pure (h4 rfl)⟩)))
theorem run_ag0 {Q : List Ag → Env → Prop} (k : Q [] δ) : Run (evA []) δ Q := Run.i k
theorem run_callB {g : List D → Option D} {as : List AM} {Q : D → Env → Prop} (h : Run (evA as) δ fun gs e => ∃ ds, shs gs = some ds ∧ ∃ c, g ds = some c ∧ Q c e) : Run (mCallB g as) δ Q :=
  run_bind (h.mono fun gs _ ⟨ds, h1, c, h2, h3⟩ => run_opt ⟨c, by rw [h1]; exact h2, h3⟩)
theorem run_isi {T : String} {Q : D → Env → Prop} (h : Run m δ fun d e => ∃ b, kitB (tyD d) T = some b ∧ Q (.bool b) e) : Run (mIsi T m) δ Q :=
  run_bind (h.mono fun d _ ⟨b, h1, h2⟩ => run_opt ⟨_, by rw [h1]; rfl, h2⟩)
theorem run_m1 {g : Str → List D → Option D} {mo : M D} {Q : D → Env → Prop} (h : Run mo δ fun d e1 => ∃ z, toS d = some z ∧ Run m e1 fun e e2 => ∃ c, g z [e] = some c ∧ Q c e2) : Run (mM1 g mo m) δ Q :=
  run_bind (h.mono fun _ _ ⟨z, h1, h2⟩ => run_bind (run_opt ⟨z, h1, run_bind (h2.mono fun _ _ h => run_opt h)⟩))
theorem run_shs {as : List AM} {Q : List D → Env → Prop} (h : Run (evA as) δ fun gs e => ∃ ds, shs gs = some ds ∧ ds.length ≤ sizeLine ∧ Q ds e) : Run (mShs as) δ Q :=
  run_bind (h.mono fun gs _ ⟨ds, h1, h2, h3⟩ => run_opt ⟨ds, by rw [h1]; simp [Option.filter, h2], h3⟩)
theorem run_tup {as : List AM} {Q : D → Env → Prop} (h : Run (evA as) δ fun gs e => ∃ ds, shs gs = some ds ∧ ds.length ≤ sizeLine ∧ Q (.tuple ds) e) : Run (mTup as) δ Q := run_bind (run_shs (h.mono fun _ _ ⟨ds, h1, h2, h3⟩ => ⟨ds, h1, h2, Run.i h3⟩))
theorem run_lst {as : List AM} {Q : D → Env → Prop} (h : Run (evA as) δ fun gs e => ∃ ds, shs gs = some ds ∧ ds.length ≤ sizeLine ∧ Q (.list ds) e) : Run (mLst as) δ Q := run_bind (run_shs (h.mono fun _ _ ⟨ds, h1, h2, h3⟩ => ⟨ds, h1, h2, Run.i h3⟩))
theorem run_ifb {b : Bool} {m1 m2 : M α} {Q : α → Env → Prop} (h1 : b = true → Run m1 δ Q) (h2 : b = false → Run m2 δ Q) : Run (if b = true then m1 else m2) δ Q := by
  cases b with
  | true => exact h1 rfl
  | false => exact h2 rfl
theorem run_andT {t1 t2 : M Bool} {Q : Bool → Env → Prop} (h : Run t1 δ fun b e => (b = true → Run t2 e Q) ∧ (b = false → Q false e)) : Run (mAndT t1 t2) δ Q := run_bind (h.mono fun b e h => run_ifb h.1 fun z => Run.i (h.2 z))
theorem run_orT {t1 t2 : M Bool} {Q : Bool → Env → Prop} (h : Run t1 δ fun b e => (b = true → Q true e) ∧ (b = false → Run t2 e Q)) : Run (mOrT t1 t2) δ Q := run_bind (h.mono fun b e h => run_ifb (fun z => Run.i (h.1 z)) h.2)
theorem run_notT {t : M Bool} {Q : Bool → Env → Prop} (h : Run t δ fun b e => Q (!b) e) : Run (mNotT t) δ Q := run_bind (h.mono fun _ _ h => Run.i h)
theorem run_andV {m1 m2 : M D} {Q : D → Env → Prop} (h : Run m1 δ fun d e => ∃ b, toB d = some b ∧ (b = true → Run m2 e Q) ∧ (b = false → Q (.bool false) e)) : Run (mAndV m1 m2) δ Q := run_bind (run_test (h.mono fun _ _ ⟨b, h1, h2, h3⟩ => ⟨b, h1, run_ifb h2 fun z => Run.i (h3 z)⟩))
theorem run_orV {m1 m2 : M D} {Q : D → Env → Prop} (h : Run m1 δ fun d e => ∃ b, toB d = some b ∧ (b = true → Q (.bool true) e) ∧ (b = false → Run m2 e Q)) : Run (mOrV m1 m2) δ Q := run_bind (run_test (h.mono fun _ _ ⟨b, h1, h2, h3⟩ => ⟨b, h1, run_ifb (fun z => Run.i (h2 z)) h3⟩))
theorem run_notV {Q : D → Env → Prop} (h : Run m δ fun d e => ∃ b, toB d = some b ∧ Q (.bool (!b)) e) : Run (mNotV m) δ Q := run_bind (run_test (h.mono fun _ _ ⟨b, h1, h2⟩ => ⟨b, h1, Run.i h2⟩))
theorem run_ifE {t : M Bool} {m1 m2 : M D} {Q : D → Env → Prop} (h : Run t δ fun b e => (b = true → Run m1 e Q) ∧ (b = false → Run m2 e Q)) : Run (mIfE t m1 m2) δ Q := run_bind (h.mono fun b e h => run_ifb h.1 h.2)
theorem run_neg {Q : D → Env → Prop} (h : Run m δ fun d e => ∃ c, dNeg d = some c ∧ Q c e) : Run (mNeg m) δ Q := run_bind (h.mono fun _ _ h => run_opt h)
theorem run_sl {ml mh : M (Option Int)} {Q : D → Env → Prop} (h : Run m δ fun d e => Run ml e fun l e1 => Run mh e1 fun u e2 => ∃ c, dSl d l u = some c ∧ Q c e2) : Run (mSl m ml mh) δ Q := run_bind (h.mono fun _ _ h => run_bind (h.mono fun _ _ h => run_bind (h.mono fun _ _ h => run_opt h)))
theorem run_part {Q : Option Int → Env → Prop} (h : Run m δ fun d e => ∃ c, toI d = some c ∧ Q c e) : Run (mPart m) δ Q := run_bind (h.mono fun _ _ h => run_opt h)
theorem run_noPart {Q : Option Int → Env → Prop} (h : Q none δ) : Run mNoPart δ Q := Run.i h
theorem run_nx {Q : Fl → Env → Prop} (h : Q .nx δ) : Run mNx δ Q := Run.i h
theorem run_seq {m1 m2 : M Fl} {Q : Fl → Env → Prop} (h : Run m1 δ fun fl e => (fl = .nx → Run m2 e Q) ∧ (fl ≠ .nx → Q fl e)) : Run (mSeq m1 m2) δ Q := by
  unfold Run at *
  unfold mSeq
  cases q : m1 δ with
  | ok fl e =>
    rw [q] at h
    cases fl with
    | nx => exact h.1 rfl
    | rt s => exact h.2 (by simp)
    | bk => exact h.2 (by simp)
    | ct => exact h.2 (by simp)
  | exc x e => rw [q] at h; exact h
  | bad => rw [q] at h; exact h
theorem run_expr {Q : Fl → Env → Prop} (h : Run m δ fun _ e => Q .nx e) : Run (mExpr m) δ Q := run_bind (h.mono fun _ _ h => Run.i h)
theorem run_ret {Q : Fl → Env → Prop} (h : Run m δ fun d e => Q (.rt (.sh d)) e) : Run (mRet m) δ Q := run_bind (h.mono fun _ _ h => Run.i h)
theorem run_ifS {t : M Bool} {m1 m2 : M Fl} {Q : Fl → Env → Prop} (h : Run t δ fun b e => (b = true → Run m1 e Q) ∧ (b = false → Run m2 e Q)) : Run (mIfS t m1 m2) δ Q := run_bind (h.mono fun b e h => run_ifb h.1 h.2)
theorem run_set {i : Nat} {Q : Fl → Env → Prop} (h : Run m δ fun d e => Q .nx (e.set i (.sh d))) : Run (mSet i m) δ Q := run_bind (h.mono fun _ _ h => Run.i h)
theorem run_setIx {k : Nat} {mi me : M D} {Q : Fl → Env → Prop} (h : Run me δ fun d e1 => ∃ xs, e1[k]? = some (Sl.ow xs) ∧ Run mi e1 fun e e2 => ∃ n, toI e = some (some n) ∧ ∃ ys, e2[k]? = some (Sl.ow ys) ∧ ∃ j, ixN ys.length n = some j ∧ Q .nx (e2.set k (.ow (ys.set j d)))) : Run (mSetIx k mi me) δ Q :=
  run_bind (h.mono fun _ _ ⟨xs, h1, h2⟩ => run_bind (run_own h1 (run_bind (h2.mono fun _ _ ⟨n, h3, ys, h4, j, h5, h6⟩ => run_bind (run_own h4 (run_bind (run_opt ⟨some n, h3, run_bind (run_opt ⟨j, h5, Run.i h6⟩)⟩)))))))
theorem run_app {k : Nat} {me : M D} {xs : List D} {Q : Fl → Env → Prop} (hx : δ[k]? = some (Sl.ow xs)) (h : Run me δ fun d e1 => ∃ ys, e1[k]? = some (Sl.ow ys) ∧ ys.length < sizeLine ∧ Q .nx (e1.set k (.ow (ys ++ [d])))) : Run (mApp k me) δ Q :=
  run_bind (run_own hx (run_bind (h.mono fun _ _ ⟨ys, h1, h2, h3⟩ => run_bind (run_own h1 (run_bind (run_opt ⟨(), if_pos h2, Run.i h3⟩))))))
theorem run_asg {g : D → M Unit} {Q : Fl → Env → Prop} (h : Run m δ fun d e => ∃ e', g d e = .ok () e' ∧ Q .nx e') : Run (mAsg g m) δ Q :=
  run_bind (h.mono fun _ _ ⟨e', h1, h2⟩ => by unfold Run; simp only [h1]; exact h2)
theorem run_iter {Q : List D → Env → Prop} (h : Run m δ fun d e => ∃ ds, dItems d = some ds ∧ Q ds e) : Run (mIter m) δ Q := run_bind (h.mono fun _ _ h => run_opt h)
theorem run_rng1 {Q : List D → Env → Prop} (h : Run m δ fun d e => ∃ ds, bRng1 d = some ds ∧ Q ds e) : Run (mRng1 m) δ Q := run_bind (h.mono fun _ _ h => run_opt h)
theorem run_rng2 {ma mb : M D} {Q : List D → Env → Prop} (h : Run ma δ fun d e1 => Run mb e1 fun e e2 => ∃ ds, bRng2 d e = some ds ∧ Q ds e2) : Run (mRng2 ma mb) δ Q := run_bind (h.mono fun _ _ h => run_bind (h.mono fun _ _ h => run_opt h))
theorem run_for {mi : M (List D)} {g : D → M Unit} {mb : M Fl} {Q : Fl → Env → Prop} (h : Run mi δ fun ds e => Run (forL g mb ds) e Q) : Run (mFor mi g mb) δ Q := run_bind h
theorem run_fr {m : M (List D)} {Q : D → Env → Prop} (h : Run m δ fun xs e => Q (.list xs) e) : Run (mFr m) δ Q := run_bind (h.mono fun _ _ h => Run.i h)
/-- a loop by what holds ahead of each turn -/
theorem run_forL {g : D → M Unit} {mb : M Fl} {Q : Fl → Env → Prop} (ds : List D) (I : Nat → Env → Prop) (h0 : I 0 δ)
    (hs : ∀ (i : Nat) (d : D) (e : Env), ds[i]? = some d → I i e → ∃ e1, g d e = .ok () e1 ∧ Run mb e1 fun fl e2 => (fl = .nx ∨ fl = .ct → I (i + 1) e2) ∧ (fl = .bk → Q .nx e2) ∧ (∀ s, fl = .rt s → Q (.rt s) e2))
    (hd : ∀ e, I ds.length e → Q .nx e) : Run (forL g mb ds) δ Q := by
  suffices H : ∀ (k i : Nat) (e : Env), i + k = ds.length → I i e → Run (forL g mb (ds.drop i)) e Q by
    have := H ds.length 0 δ (by omega) h0
    rwa [List.drop_zero] at this
  intro k
  induction k with
  | zero =>
    intro i e hi hI
    have e' : i = ds.length := by omega
    subst e'
    rw [List.drop_length]
    exact Run.i (hd e hI)
  | succ k ih =>
    intro i e hi hI
    have hlt : i < ds.length := by omega
    obtain ⟨e1, h1, h2⟩ := hs i ds[i] e (List.getElem?_eq_getElem hlt) hI
    rw [List.drop_eq_getElem_cons hlt]
    unfold Run forL
    rw [h1]
    unfold Run at h2
    dsimp only
    cases q : mb e1 with
    | ok fl e2 =>
      rw [q] at h2
      obtain ⟨a1, a2, a3⟩ := h2
      cases fl with
      | nx => have z := ih (i + 1) e2 (by omega) (a1 (.inl rfl)); unfold Run at z; exact z
      | ct => have z := ih (i + 1) e2 (by omega) (a1 (.inr rfl)); unfold Run at z; exact z
      | bk => exact a2 rfl
      | rt s => exact a3 s rfl
    | exc x e2 => rw [q] at h2; exact h2
    | bad => rw [q] at h2; exact h2
/-- a comprehension by what holds ahead of each turn: J i ys e, with the items made so far -/
theorem run_comp {mi : M (List D)} {vs : List Nat} {g : D → M Unit} {mt : M Bool} {me : M D} {Q : List D → Env → Prop}
    (h : Run mi δ fun ds e => (vs.all fun i => !(e.getD i .no).own) = true ∧ ds.length ≤ sizeLine ∧ Run (compL vs g mt me ds) (wipeE e vs) fun ys e2 => Q ys (backE e e2 vs)) : Run (mComp mi vs g mt me) δ Q :=
  run_bind (h.mono fun ds e ⟨h1, h2, h3⟩ => by
    unfold Run compE
    rw [if_pos ⟨h1, h2⟩]
    unfold Run at h3
    cases q : compL vs g mt me ds (wipeE e vs) with
    | ok ys e2 => rw [q] at h3; exact h3
    | exc x e2 => rw [q] at h3; exact h3
    | bad => rw [q] at h3; exact h3)
theorem run_compL {vs : List Nat} {g : D → M Unit} {mt : M Bool} {me : M D} (ds : List D) (J : Nat → List D → Env → Prop) {Q : List D → Env → Prop} (h0 : J 0 [] δ)
    (hs : ∀ (i : Nat) (d : D) (ys : List D) (e : Env), ds[i]? = some d → J i ys e → ∃ e1, g d e = .ok () e1 ∧ Run mt e1 fun b e2 => (b = true → Run me e2 fun y e3 => J (i + 1) (ys ++ [y]) (wipeE e3 vs)) ∧ (b = false → J (i + 1) ys (wipeE e2 vs)))
    (hd : ∀ ys e, J ds.length ys e → Q ys e) : Run (compL vs g mt me ds) δ Q := by
  suffices H : ∀ (k i : Nat) (ys : List D) (e : Env), i + k = ds.length → J i ys e → Run (compL vs g mt me (ds.drop i)) e fun zs e2 => Q (ys ++ zs) e2 by
    have := H ds.length 0 [] δ (by omega) h0
    rw [List.drop_zero] at this
    exact this.mono fun _ _ h => h
  intro k
  induction k with
  | zero =>
    intro i ys e hi hJ
    have e' : i = ds.length := by omega
    subst e'
    rw [List.drop_length]
    refine Run.i ?_
    show Q (ys ++ []) e
    rw [List.append_nil]
    exact hd ys e hJ
  | succ k ih =>
    intro i ys e hi hJ
    have hlt : i < ds.length := by omega
    obtain ⟨e1, h1, h2⟩ := hs i ds[i] ys e (List.getElem?_eq_getElem hlt) hJ
    rw [List.drop_eq_getElem_cons hlt]
    have z : Run (mBind mt (fun b => if b then mBind me (fun y => mBind (mWipe vs) fun _ => mBind (compL vs g mt me (ds.drop (i + 1))) fun ys => mPure (y :: ys)) else mBind (mWipe vs) fun _ => compL vs g mt me (ds.drop (i + 1)))) e1 fun zs e2 => Q (ys ++ zs) e2 := by
      refine run_bind (h2.mono fun b e2 h => run_ifb (fun hb => ?_) fun hb => ?_)
      · refine run_bind ((h.1 hb).mono fun y e3 hJ' => run_bind (Run.i ?_))
        show Run (mBind (compL vs g mt me (ds.drop (i + 1))) fun ys => mPure (y :: ys)) (wipeE e3 vs) _
        refine run_bind ((ih (i + 1) _ _ (by omega) hJ').mono fun zs e4 q => Run.i ?_)
        show Q (ys ++ (y :: zs)) e4
        rw [List.append_assoc] at q
        exact q
      · refine run_bind (Run.i ?_)
        show Run (compL vs g mt me (ds.drop (i + 1))) (wipeE e2 vs) _
        exact ih (i + 1) _ _ (by omega) (h.2 hb)
    unfold Run at z ⊢
    unfold compL
    rw [h1]
    exact z
/-- a def, by its body -/
theorem frun_fn {n N : Nat} {ps : List Nat} {mb : M Fl} {as : Env} {Q : Sl → Env → Prop} (h : Run mb (as ++ List.replicate (N - n) .no) fun fl e => (fl = .nx → Q (.sh .none) (outs ps n e)) ∧ (∀ s, fl = .rt s → Q s (outs ps n e)) ∧ fl ≠ .bk ∧ fl ≠ .ct) : FRun (fnF n N ps mb) as Q := by
  unfold FRun fnF
  unfold Run at h
  cases q : mb (as ++ List.replicate (N - n) .no) with
  | ok fl e =>
    rw [q] at h
    obtain ⟨h1, h2, h3, h4⟩ := h
    cases fl with
    | nx => exact h1 rfl
    | rt s => exact h2 s rfl
    | bk => exact (h3 rfl).elim
    | ct => exact (h4 rfl).elim
  | exc x e => rw [q] at h; exact h
  | bad => rw [q] at h; exact h
end
end Dn
namespace Dn
open PySem PySem.Spec PyProof.Rows L2 TL
/-- one step of a walk: what is left to show -/
class Step (p : Prop) (q : outParam Prop) : Prop where
  go : q → p
class StepS (p : Prop) (a q : outParam Prop) : Prop where
  go : a → q → p
@[reducible] def isStr : D → Bool
  | .str _ => true
  | _ => false
section
variable {Q : D → Prop} {i j : Int} {x y : Str} {xs ys : List D} {d e : D}
theorem bx_add_int (h : Q (.int (i + j))) : ∃ c, dAdd (.int i) (.int j) = some c ∧ Q c := ⟨_, rfl, h⟩
instance  : Step (∃ c, dAdd (.int i) (.int j) = some c ∧ Q c) (Q (.int (i + j))) := ⟨bx_add_int⟩
theorem bx_add_str (hl : x.length + y.length ≤ sizeLine) (h : Q (.str (x ++ y))) : ∃ c, dAdd (.str x) (.str y) = some c ∧ Q c := ⟨_, if_pos hl, h⟩
instance  : StepS (∃ c, dAdd (.str x) (.str y) = some c ∧ Q c) (x.length + y.length ≤ sizeLine) (Q (.str (x ++ y))) := ⟨bx_add_str⟩
theorem bx_add_tup (hl : xs.length + ys.length ≤ sizeLine) (h : Q (.tuple (xs ++ ys))) : ∃ c, dAdd (.tuple xs) (.tuple ys) = some c ∧ Q c := ⟨_, if_pos hl, h⟩
theorem bx_add_lst (hl : xs.length + ys.length ≤ sizeLine) (h : Q (.list (xs ++ ys))) : ∃ c, dAdd (.list xs) (.list ys) = some c ∧ Q c := ⟨_, if_pos hl, h⟩
theorem bx_sub (h : Q (.int (i - j))) : ∃ c, dSub (.int i) (.int j) = some c ∧ Q c := ⟨_, rfl, h⟩
instance  : Step (∃ c, dSub (.int i) (.int j) = some c ∧ Q c) (Q (.int (i - j))) := ⟨bx_sub⟩
theorem bx_mul (hc : (-(2 ^ 64) < i ∧ i < 2 ^ 64) ∨ (-(2 ^ 64) < j ∧ j < 2 ^ 64)) (h : Q (.int (i * j))) : ∃ c, dMul (.int i) (.int j) = some c ∧ Q c := ⟨_, if_pos hc, h⟩
instance  : StepS (∃ c, dMul (.int i) (.int j) = some c ∧ Q c) ((-(2 ^ 64) < i ∧ i < 2 ^ 64) ∨ (-(2 ^ 64) < j ∧ j < 2 ^ 64)) (Q (.int (i * j))) := ⟨bx_mul⟩
theorem bx_rep (hc : -1000000 ≤ j ∧ j ≤ 1000000 ∧ x.length ≤ 16) (h : Q (.str (strRep x j))) : ∃ c, dMul (.str x) (.int j) = some c ∧ Q c := ⟨_, if_pos hc, h⟩
instance  : StepS (∃ c, dMul (.str x) (.int j) = some c ∧ Q c) (-1000000 ≤ j ∧ j ≤ 1000000 ∧ x.length ≤ 16) (Q (.str (strRep x j))) := ⟨bx_rep⟩
theorem bx_mod (hc : 0 < j) (h : Q (.int (i % j))) : ∃ c, dMod (.int i) (.int j) = some c ∧ Q c := ⟨_, if_pos (decide_eq_true hc), h⟩
instance  : StepS (∃ c, dMod (.int i) (.int j) = some c ∧ Q c) (0 < j) (Q (.int (i % j))) := ⟨bx_mod⟩
theorem bx_div (hc : 0 < j ∧ j < 4611686018427387904) (h : Q (.int (i / j))) : ∃ c, dDiv (.int i) (.int j) = some c ∧ Q c := ⟨_, if_pos (decide_eq_true hc), h⟩
instance  : StepS (∃ c, dDiv (.int i) (.int j) = some c ∧ Q c) (0 < j ∧ j < 4611686018427387904) (Q (.int (i / j))) := ⟨bx_div⟩
theorem bx_pow (hc : 0 ≤ j ∧ j ≤ 1000000 ∧ i.natAbs < 2 ^ 64) (h : Q (.int (i ^ j.toNat))) : ∃ c, dPow (.int i) (.int j) = some c ∧ Q c := ⟨_, if_pos (decide_eq_true hc), h⟩
instance  : StepS (∃ c, dPow (.int i) (.int j) = some c ∧ Q c) (0 ≤ j ∧ j ≤ 1000000 ∧ i.natAbs < 2 ^ 64) (Q (.int (i ^ j.toNat))) := ⟨bx_pow⟩
theorem bx_eq_str (h : Q (.bool (decide (x = y)))) : ∃ c, dEq (.str x) (.str y) = some c ∧ Q c := ⟨_, rfl, h⟩
instance  : Step (∃ c, dEq (.str x) (.str y) = some c ∧ Q c) (Q (.bool (decide (x = y)))) := ⟨bx_eq_str⟩
theorem bx_ne_str (h : Q (.bool (!decide (x = y)))) : ∃ c, dNe (.str x) (.str y) = some c ∧ Q c := ⟨_, rfl, h⟩
instance  : Step (∃ c, dNe (.str x) (.str y) = some c ∧ Q c) (Q (.bool (!decide (x = y)))) := ⟨bx_ne_str⟩
theorem dEqB_of (hn : isStr d = false ∨ isStr e = false) (h1 : SeqAt.shaped d = true) (h2 : SeqAt.shaped e = true) : dEqB d e = some (PyData.eqv d e) := by
  have z : (if SeqAt.shaped d = true ∧ SeqAt.shaped e = true then some (PyData.eqv d e) else none) = some (PyData.eqv d e) := if_pos ⟨h1, h2⟩
  cases d <;> first | exact z | (cases e <;> first | exact z | (rcases hn with hn | hn <;> cases hn))
theorem bx_eq (hn : isStr d = false ∨ isStr e = false) (h1 : SeqAt.shaped d = true) (h2 : SeqAt.shaped e = true) (h : Q (.bool (PyData.eqv d e))) : ∃ c, dEq d e = some c ∧ Q c := ⟨_, by unfold dEq; rw [dEqB_of hn h1 h2]; rfl, h⟩
theorem bx_ne (hn : isStr d = false ∨ isStr e = false) (h1 : SeqAt.shaped d = true) (h2 : SeqAt.shaped e = true) (h : Q (.bool (!PyData.eqv d e))) : ∃ c, dNe d e = some c ∧ Q c := ⟨_, by unfold dNe; rw [dEqB_of hn h1 h2]; rfl, h⟩
theorem eqv_int : PyData.eqv (.int i) (.int j) = decide (i = j) := by by_cases h : i = j <;> simp [PyData.eqv, h]
theorem eqv_bl {a b : Bool} : PyData.eqv (.bool a) (.bool b) = decide (a = b) := by cases a <;> cases b <;> rfl
theorem bx_eq_int (h : Q (.bool (decide (i = j)))) : ∃ c, dEq (.int i) (.int j) = some c ∧ Q c := bx_eq (.inl rfl) rfl rfl (by rw [eqv_int]; exact h)
instance  : Step (∃ c, dEq (.int i) (.int j) = some c ∧ Q c) (Q (.bool (decide (i = j)))) := ⟨bx_eq_int⟩
theorem bx_eq_bl {a b : Bool} (h : Q (.bool (decide (a = b)))) : ∃ c, dEq (.bool a) (.bool b) = some c ∧ Q c := bx_eq (.inl rfl) rfl rfl (by rw [eqv_bl]; exact h)
instance {a b : Bool} : Step (∃ c, dEq (.bool a) (.bool b) = some c ∧ Q c) (Q (.bool (decide (a = b)))) := ⟨bx_eq_bl⟩
theorem bx_ne_int (h : Q (.bool (!decide (i = j)))) : ∃ c, dNe (.int i) (.int j) = some c ∧ Q c := bx_ne (.inl rfl) rfl rfl (by rw [eqv_int]; exact h)
instance  : Step (∃ c, dNe (.int i) (.int j) = some c ∧ Q c) (Q (.bool (!decide (i = j)))) := ⟨bx_ne_int⟩
theorem bx_ne_bl {a b : Bool} (h : Q (.bool (!decide (a = b)))) : ∃ c, dNe (.bool a) (.bool b) = some c ∧ Q c := bx_ne (.inl rfl) rfl rfl (by rw [eqv_bl]; exact h)
instance {a b : Bool} : Step (∃ c, dNe (.bool a) (.bool b) = some c ∧ Q c) (Q (.bool (!decide (a = b)))) := ⟨bx_ne_bl⟩
theorem bx_lt (h : Q (.bool (decide (i < j)))) : ∃ c, dLt (.int i) (.int j) = some c ∧ Q c := ⟨_, rfl, h⟩
instance  : Step (∃ c, dLt (.int i) (.int j) = some c ∧ Q c) (Q (.bool (decide (i < j)))) := ⟨bx_lt⟩
theorem bx_le (h : Q (.bool (decide (i ≤ j)))) : ∃ c, dLe (.int i) (.int j) = some c ∧ Q c := ⟨_, rfl, h⟩
instance  : Step (∃ c, dLe (.int i) (.int j) = some c ∧ Q c) (Q (.bool (decide (i ≤ j)))) := ⟨bx_le⟩
theorem bx_gt (h : Q (.bool (decide (j < i)))) : ∃ c, dGt (.int i) (.int j) = some c ∧ Q c := ⟨_, rfl, h⟩
instance  : Step (∃ c, dGt (.int i) (.int j) = some c ∧ Q c) (Q (.bool (decide (j < i)))) := ⟨bx_gt⟩
theorem bx_ge (h : Q (.bool (decide (j ≤ i)))) : ∃ c, dGe (.int i) (.int j) = some c ∧ Q c := ⟨_, rfl, h⟩
instance  : Step (∃ c, dGe (.int i) (.int j) = some c ∧ Q c) (Q (.bool (decide (j ≤ i)))) := ⟨bx_ge⟩
theorem bx_in_str (h : Q (.bool (strIn x y))) : ∃ c, dIn (.str x) (.str y) = some c ∧ Q c := ⟨_, rfl, h⟩
instance  : Step (∃ c, dIn (.str x) (.str y) = some c ∧ Q c) (Q (.bool (strIn x y))) := ⟨bx_in_str⟩
theorem bx_nin_str (h : Q (.bool (!strIn x y))) : ∃ c, dNotIn (.str x) (.str y) = some c ∧ Q c := ⟨_, rfl, h⟩
instance  : Step (∃ c, dNotIn (.str x) (.str y) = some c ∧ Q c) (Q (.bool (!strIn x y))) := ⟨bx_nin_str⟩
theorem dInB_tup (h1 : flatD d = true) (h2 : xs.all flatD = true) : dInB d (.tuple xs) = some (inD d xs) := by
  cases d <;> first | exact if_pos ⟨h1, h2⟩ | simp [flatD] at h1
theorem bx_in_tup (h1 : flatD d = true) (h2 : xs.all flatD = true) (h : Q (.bool (inD d xs))) : ∃ c, dIn d (.tuple xs) = some c ∧ Q c := ⟨_, by unfold dIn; rw [dInB_tup h1 h2]; rfl, h⟩
theorem bx_nin_tup (h1 : flatD d = true) (h2 : xs.all flatD = true) (h : Q (.bool (!inD d xs))) : ∃ c, dNotIn d (.tuple xs) = some c ∧ Q c := ⟨_, by unfold dNotIn; rw [dInB_tup h1 h2]; rfl, h⟩
theorem bx_is_bl {a b : Bool} (h : Q (.bool (decide (a = b)))) : ∃ c, dIs (.bool a) (.bool b) = some c ∧ Q c := ⟨_, rfl, h⟩
instance {a b : Bool} : Step (∃ c, dIs (.bool a) (.bool b) = some c ∧ Q c) (Q (.bool (decide (a = b)))) := ⟨bx_is_bl⟩
theorem bx_isNot_bl {a b : Bool} (h : Q (.bool (!decide (a = b)))) : ∃ c, dIsNot (.bool a) (.bool b) = some c ∧ Q c := ⟨_, rfl, h⟩
instance {a b : Bool} : Step (∃ c, dIsNot (.bool a) (.bool b) = some c ∧ Q c) (Q (.bool (!decide (a = b)))) := ⟨bx_isNot_bl⟩
theorem bx_is_non (h : Q (.bool (isN d))) : ∃ c, dIs d .none = some c ∧ Q c := ⟨.bool (isN d), by unfold dIs; cases d <;> rfl, h⟩
instance  : Step (∃ c, dIs d .none = some c ∧ Q c) (Q (.bool (isN d))) := ⟨bx_is_non⟩
theorem bx_isNot_non (h : Q (.bool (!isN d))) : ∃ c, dIsNot d .none = some c ∧ Q c := ⟨.bool (!isN d), by unfold dIsNot; cases d <;> rfl, h⟩
instance  : Step (∃ c, dIsNot d .none = some c ∧ Q c) (Q (.bool (!isN d))) := ⟨bx_isNot_non⟩
theorem bx_ix_lst (h1 : atI xs i = some d) (h : Q d) : ∃ c, dIx (.list xs) (.int i) = some c ∧ Q c := ⟨d, h1, h⟩
theorem bx_ix_tup (h1 : atI xs i = some d) (h : Q d) : ∃ c, dIx (.tuple xs) (.int i) = some c ∧ Q c := ⟨d, h1, h⟩
theorem bx_ix_str {c : Nat} (hl : x.length ≤ sizeLine) (h1 : atI x.cps.toList i = some c) (h : Q (.str ⟨#[c]⟩)) : ∃ c, dIx (.str x) (.int i) = some c ∧ Q c := ⟨.str ⟨#[c]⟩, by show (if x.length ≤ sizeLine then (atI x.cps.toList i).map (fun c => PyData.str ⟨#[c]⟩) else none) = _; rw [if_pos hl, h1]; rfl, h⟩
theorem bx_sl_str {lo hi : Option Int} (hl : x.length ≤ sizeLine) (h : Q (.str (cutS x lo hi))) : ∃ c, dSl (.str x) lo hi = some c ∧ Q c := ⟨_, if_pos hl, h⟩
instance {lo hi : Option Int} : StepS (∃ c, dSl (.str x) lo hi = some c ∧ Q c) (x.length ≤ sizeLine) (Q (.str (cutS x lo hi))) := ⟨bx_sl_str⟩
theorem bx_sl_tup {lo hi : Option Int} (h : Q (.tuple (cutD xs lo hi))) : ∃ c, dSl (.tuple xs) lo hi = some c ∧ Q c := ⟨_, rfl, h⟩
instance {lo hi : Option Int} : Step (∃ c, dSl (.tuple xs) lo hi = some c ∧ Q c) (Q (.tuple (cutD xs lo hi))) := ⟨bx_sl_tup⟩
theorem bx_sl_lst {lo hi : Option Int} (h : Q (.list (cutD xs lo hi))) : ∃ c, dSl (.list xs) lo hi = some c ∧ Q c := ⟨_, rfl, h⟩
instance {lo hi : Option Int} : Step (∃ c, dSl (.list xs) lo hi = some c ∧ Q c) (Q (.list (cutD xs lo hi))) := ⟨bx_sl_lst⟩
theorem bx_neg (h : Q (.int (-i))) : ∃ c, dNeg (.int i) = some c ∧ Q c := ⟨_, rfl, h⟩
instance  : Step (∃ c, dNeg (.int i) = some c ∧ Q c) (Q (.int (-i))) := ⟨bx_neg⟩
theorem bx_len_str (hl : x.length ≤ sizeLine) (h : Q (.int x.length)) : ∃ c, bLen [.str x] = some c ∧ Q c := ⟨_, if_pos hl, h⟩
instance  : StepS (∃ c, bLen [.str x] = some c ∧ Q c) (x.length ≤ sizeLine) (Q (.int x.length)) := ⟨bx_len_str⟩
theorem bx_len_lst (h : Q (.int xs.length)) : ∃ c, bLen [.list xs] = some c ∧ Q c := ⟨_, rfl, h⟩
instance  : Step (∃ c, bLen [.list xs] = some c ∧ Q c) (Q (.int xs.length)) := ⟨bx_len_lst⟩
theorem bx_len_tup (h : Q (.int xs.length)) : ∃ c, bLen [.tuple xs] = some c ∧ Q c := ⟨_, rfl, h⟩
instance  : Step (∃ c, bLen [.tuple xs] = some c ∧ Q c) (Q (.int xs.length)) := ⟨bx_len_tup⟩
theorem bx_int_int (h : Q (.int i)) : ∃ c, bInt [.int i] = some c ∧ Q c := ⟨_, rfl, h⟩
instance  : Step (∃ c, bInt [.int i] = some c ∧ Q c) (Q (.int i)) := ⟨bx_int_int⟩
theorem bx_int_bl {b : Bool} (h : Q (.int (if b then 1 else 0))) : ∃ c, bInt [.bool b] = some c ∧ Q c := ⟨_, rfl, h⟩
instance {b : Bool} : Step (∃ c, bInt [.bool b] = some c ∧ Q c) (Q (.int (if b then 1 else 0))) := ⟨bx_int_bl⟩
theorem bx_II {f : Int → Int → Int} (h : Q (.int (f i j))) : ∃ c, bII f [.int i, .int j] = some c ∧ Q c := ⟨_, rfl, h⟩
instance {f : Int → Int → Int} : Step (∃ c, bII f [.int i, .int j] = some c ∧ Q c) (Q (.int (f i j))) := ⟨bx_II⟩
theorem bx_tuple_lst (h : Q (.tuple xs)) : ∃ c, bTuple [.list xs] = some c ∧ Q c := ⟨_, rfl, h⟩
instance  : Step (∃ c, bTuple [.list xs] = some c ∧ Q c) (Q (.tuple xs)) := ⟨bx_tuple_lst⟩
theorem bx_tuple_tup (h : Q (.tuple xs)) : ∃ c, bTuple [.tuple xs] = some c ∧ Q c := ⟨_, rfl, h⟩
instance  : Step (∃ c, bTuple [.tuple xs] = some c ∧ Q c) (Q (.tuple xs)) := ⟨bx_tuple_tup⟩
theorem bx_list_lst (h : Q (.list xs)) : ∃ c, bList [.list xs] = some c ∧ Q c := ⟨_, rfl, h⟩
instance  : Step (∃ c, bList [.list xs] = some c ∧ Q c) (Q (.list xs)) := ⟨bx_list_lst⟩
theorem bx_list_tup (h : Q (.list xs)) : ∃ c, bList [.tuple xs] = some c ∧ Q c := ⟨_, rfl, h⟩
instance  : Step (∃ c, bList [.tuple xs] = some c ∧ Q c) (Q (.list xs)) := ⟨bx_list_tup⟩
theorem toBs_map : ∀ bs : List Bool, toBs (bs.map PyData.bool) = some bs
  | [] => rfl
  | b :: r => by rw [List.map_cons]; unfold toBs; rw [toBs_map r]; rfl
theorem toSs_map : ∀ bs : List Str, toSs (bs.map PyData.str) = some bs
  | [] => rfl
  | b :: r => by rw [List.map_cons]; unfold toSs; rw [toSs_map r]; rfl
theorem bx_bools {f : List Bool → Bool} {bs : List Bool} (h : Q (.bool (f bs))) : ∃ c, bBools f [.list (bs.map PyData.bool)] = some c ∧ Q c := ⟨.bool (f bs), by show (toBs (bs.map PyData.bool)).map _ = _; rw [toBs_map]; rfl, h⟩
theorem bx_split (h1 : (y.length == 0) = false) (h2 : x.length + 2 ≤ sizeLine) (h : Q (.list ((Txt.split x y).map PyData.str))) : ∃ c, sSplit x [.str y] = some c ∧ Q c := ⟨_, if_pos ⟨h1, h2⟩, h⟩
theorem bx_joinO {P : D → Prop} {ns : List Str} (h1 : joinN x ns ≤ 16777216) (h : P (.str (Txt.join x ns))) : ∃ c, sJoin x [.list (ns.map PyData.str)] = some c ∧ flatD c = true ∧ P c := ⟨.str (Txt.join x ns), by
  show ((toSs (ns.map PyData.str)).bind fun ys => if joinN x ys ≤ 16777216 then some (PyData.str (Txt.join x ys)) else none) = _
  rw [toSs_map]
  exact if_pos h1, rfl, h⟩
theorem bx_rng1 {R : List D → Prop} (h1 : inLine i = true) (h : R (rngD 0 i.toNat)) : ∃ ds, bRng1 (.int i) = some ds ∧ R ds := ⟨_, if_pos h1, h⟩
instance {R : List D → Prop} : StepS (∃ ds, bRng1 (.int i) = some ds ∧ R ds) (inLine i = true) (R (rngD 0 i.toNat)) := ⟨bx_rng1⟩
theorem bx_it_lst {R : List D → Prop} (h : R xs) : ∃ ds, dItems (.list xs) = some ds ∧ R ds := ⟨_, rfl, h⟩
instance {R : List D → Prop} : Step (∃ ds, dItems (.list xs) = some ds ∧ R ds) (R xs) := ⟨bx_it_lst⟩
theorem bx_it_tup {R : List D → Prop} (h : R xs) : ∃ ds, dItems (.tuple xs) = some ds ∧ R ds := ⟨_, rfl, h⟩
instance {R : List D → Prop} : Step (∃ ds, dItems (.tuple xs) = some ds ∧ R ds) (R xs) := ⟨bx_it_tup⟩
theorem bx_it_str {R : List D → Prop} (h : R (sgnD x)) : ∃ ds, dItems (.str x) = some ds ∧ R ds := ⟨_, rfl, h⟩
instance {R : List D → Prop} : Step (∃ ds, dItems (.str x) = some ds ∧ R ds) (R (sgnD x)) := ⟨bx_it_str⟩
end
theorem inLine_of {i : Int} (h : -(2 ^ 62) ≤ i ∧ i < 2 ^ 62) : inLine i = true := decide_eq_true h
theorem line_of {n : Nat} (h : n ≤ 16777216) : n ≤ sizeLine := h
theorem kb_ss : kitB "str" "str" = some true := by decide +kernel
theorem kb_is : kitB "int" "str" = some false := by decide +kernel
theorem kb_bs : kitB "bool" "str" = some false := by decide +kernel
theorem kb_ns : kitB "NoneType" "str" = some false := by decide +kernel
theorem kb_ls : kitB "list" "str" = some false := by decide +kernel
theorem kb_ts : kitB "tuple" "str" = some false := by decide +kernel
theorem kb_ii : kitB "int" "int" = some true := by decide +kernel
theorem kb_bi : kitB "bool" "int" = some true := by decide +kernel
theorem kb_si : kitB "str" "int" = some false := by decide +kernel
theorem kb_ni : kitB "NoneType" "int" = some false := by decide +kernel
theorem kb_li : kitB "list" "int" = some false := by decide +kernel
theorem kb_ti : kitB "tuple" "int" = some false := by decide +kernel
theorem kb_bb : kitB "bool" "bool" = some true := by decide +kernel
theorem kb_ib : kitB "int" "bool" = some false := by decide +kernel
theorem kb_sb : kitB "str" "bool" = some false := by decide +kernel
theorem kb_nb : kitB "NoneType" "bool" = some false := by decide +kernel
theorem kb_lb : kitB "list" "bool" = some false := by decide +kernel
theorem kb_tb : kitB "tuple" "bool" = some false := by decide +kernel
theorem kb_tt : kitB "tuple" "tuple" = some true := by decide +kernel
theorem kb_it : kitB "int" "tuple" = some false := by decide +kernel
theorem kb_bt : kitB "bool" "tuple" = some false := by decide +kernel
theorem kb_st : kitB "str" "tuple" = some false := by decide +kernel
theorem kb_nt : kitB "NoneType" "tuple" = some false := by decide +kernel
theorem kb_lt : kitB "list" "tuple" = some false := by decide +kernel
@[reducible] def isBool : D → Bool
  | .bool _ => true
  | _ => false
@[reducible] def isInt : D → Bool
  | .int _ => true
  | .bool _ => true
  | _ => false
@[reducible] def isTup : D → Bool
  | .tuple _ => true
  | _ => false
def noDict : D → Bool
  | .dict _ => false
  | _ => true
section
variable {R : Bool → Prop} {d : D}
theorem bx_isi_str (hd : noDict d = true) (h : R (isStr d)) : ∃ b, kitB (tyD d) "str" = some b ∧ R b := by
  cases d <;> first | exact ⟨_, kb_ss, h⟩ | exact ⟨_, kb_is, h⟩ | exact ⟨_, kb_bs, h⟩ | exact ⟨_, kb_ns, h⟩ | exact ⟨_, kb_ls, h⟩ | exact ⟨_, kb_ts, h⟩ | cases hd
instance  : StepS (∃ b, kitB (tyD d) "str" = some b ∧ R b) (noDict d = true) (R (isStr d)) := ⟨bx_isi_str⟩
theorem bx_isi_bool (hd : noDict d = true) (h : R (isBool d)) : ∃ b, kitB (tyD d) "bool" = some b ∧ R b := by
  cases d <;> first | exact ⟨_, kb_bb, h⟩ | exact ⟨_, kb_ib, h⟩ | exact ⟨_, kb_sb, h⟩ | exact ⟨_, kb_nb, h⟩ | exact ⟨_, kb_lb, h⟩ | exact ⟨_, kb_tb, h⟩ | cases hd
instance  : StepS (∃ b, kitB (tyD d) "bool" = some b ∧ R b) (noDict d = true) (R (isBool d)) := ⟨bx_isi_bool⟩
theorem bx_isi_int (hd : noDict d = true) (h : R (isInt d)) : ∃ b, kitB (tyD d) "int" = some b ∧ R b := by
  cases d <;> first | exact ⟨_, kb_ii, h⟩ | exact ⟨_, kb_bi, h⟩ | exact ⟨_, kb_si, h⟩ | exact ⟨_, kb_ni, h⟩ | exact ⟨_, kb_li, h⟩ | exact ⟨_, kb_ti, h⟩ | cases hd
instance  : StepS (∃ b, kitB (tyD d) "int" = some b ∧ R b) (noDict d = true) (R (isInt d)) := ⟨bx_isi_int⟩
theorem bx_isi_tup (hd : noDict d = true) (h : R (isTup d)) : ∃ b, kitB (tyD d) "tuple" = some b ∧ R b := by
  cases d <;> first | exact ⟨_, kb_tt, h⟩ | exact ⟨_, kb_it, h⟩ | exact ⟨_, kb_bt, h⟩ | exact ⟨_, kb_st, h⟩ | exact ⟨_, kb_nt, h⟩ | exact ⟨_, kb_lt, h⟩ | cases hd
instance  : StepS (∃ b, kitB (tyD d) "tuple" = some b ∧ R b) (noDict d = true) (R (isTup d)) := ⟨bx_isi_tup⟩
end
section
variable {A B : Prop} {Q : Sl → Env → Prop} {R : Fl → Env → Prop} {s : Sl} {ps : List Nat} {n : Nat} {e : Env} {p : Prop} {m : M Fl}
theorem seq_nx (h : A) : (Fl.nx = .nx → A) ∧ (Fl.nx ≠ .nx → B) := ⟨fun _ => h, fun z => absurd rfl z⟩
theorem seq_rt (h : B) : (Fl.rt s = .nx → A) ∧ (Fl.rt s ≠ .nx → B) := ⟨fun z => (nomatch z), fun _ => h⟩
theorem fin_rt (h : Q s (outs ps n e)) : (Fl.rt s = .nx → A) ∧ (∀ s', Fl.rt s = .rt s' → Q s' (outs ps n e)) ∧ Fl.rt s ≠ .bk ∧ Fl.rt s ≠ .ct := ⟨fun z => (nomatch z), fun s' z => by cases z; exact h, by simp, by simp⟩
theorem fin_nx (h : A) : (Fl.nx = .nx → A) ∧ (∀ s', Fl.nx = .rt s' → Q s' (outs ps n e)) ∧ Fl.nx ≠ .bk ∧ Fl.nx ≠ .ct := ⟨fun _ => h, fun s' z => (nomatch z), by simp, by simp⟩
theorem turn_nx {C : Sl → Prop} (h : A) : (Fl.nx = .nx ∨ Fl.nx = .ct → A) ∧ (Fl.nx = .bk → B) ∧ (∀ s', Fl.nx = .rt s' → C s') := ⟨fun _ => h, fun z => (nomatch z), fun s' z => (nomatch z)⟩
theorem turn_ct {C : Sl → Prop} (h : A) : (Fl.ct = .nx ∨ Fl.ct = .ct → A) ∧ (Fl.ct = .bk → B) ∧ (∀ s', Fl.ct = .rt s' → C s') := ⟨fun _ => h, fun z => (nomatch z), fun s' z => (nomatch z)⟩
theorem turn_bk {C : Sl → Prop} (h : B) : (Fl.bk = .nx ∨ Fl.bk = .ct → A) ∧ (Fl.bk = .bk → B) ∧ (∀ s', Fl.bk = .rt s' → C s') := ⟨fun z => by simp at z, fun _ => h, fun s' z => (nomatch z)⟩
theorem turn_rt {C : Sl → Prop} (h : C s) : (Fl.rt s = .nx ∨ Fl.rt s = .ct → A) ∧ (Fl.rt s = .bk → B) ∧ (∀ s', Fl.rt s = .rt s' → C s') := ⟨fun z => by simp at z, fun z => (nomatch z), fun s' z => by cases z; exact h⟩
theorem two_T (h : A) : (true = true → A) ∧ (true = false → B) := ⟨fun _ => h, fun z => (nomatch z)⟩
instance  : Step ((true = true → A) ∧ (true = false → B)) (A) := ⟨two_T⟩
theorem two_F (h : B) : (false = true → A) ∧ (false = false → B) := ⟨fun z => (nomatch z), fun _ => h⟩
instance  : Step ((false = true → A) ∧ (false = false → B)) (B) := ⟨two_F⟩
theorem two_dec [Decidable p] (h1 : p → A) (h2 : ¬ p → B) : (decide p = true → A) ∧ (decide p = false → B) := ⟨fun z => h1 (of_decide_eq_true z), fun z => h2 (of_decide_eq_false z)⟩
theorem two_dT {α : Type} {a : α} [Decidable (a = a)] (h : A) : (decide (a = a) = true → A) ∧ (decide (a = a) = false → B) := two_dec (fun _ => h) fun z => absurd rfl z
instance {α : Type} {a : α} [Decidable (a = a)] : Step ((decide (a = a) = true → A) ∧ (decide (a = a) = false → B)) (A) := ⟨two_dT⟩
theorem two_not {b : Bool} (h : (b = true → B) ∧ (b = false → A)) : ((!b) = true → A) ∧ ((!b) = false → B) := ⟨fun z => h.2 (by simpa using z), fun z => h.1 (by simpa using z)⟩
instance {b : Bool} : Step (((!b) = true → A) ∧ ((!b) = false → B)) ((b = true → B) ∧ (b = false → A)) := ⟨two_not⟩
theorem toB_bl {b : Bool} {R : Bool → Prop} (h : R b) : ∃ k, toB (.bool b) = some k ∧ R k := ⟨b, rfl, h⟩
instance {b : Bool} {R : Bool → Prop} : Step (∃ k, toB (.bool b) = some k ∧ R k) (R b) := ⟨toB_bl⟩
end
theorem filter_take_succ {α : Type} (p : α → Bool) (ds : List α) (i : Nat) (d : α) (h : ds[i]? = some d) : (ds.take (i + 1)).filter p = (ds.take i).filter p ++ (if p d then [d] else []) := by
  rw [List.take_add_one, h, List.filter_append]
  cases hp : p d <;> simp [hp]
theorem run_yes {e : Env} {Q : Bool → Env → Prop} (h : Q true e) : Run mYes e Q := Run.i h
theorem mem_sgnD {z : Str} {d : D} (h : d ∈ sgnD z) : ∃ c, c ∈ tl z ∧ d = .str ⟨#[c]⟩ := by
  obtain ⟨c, h1, h2⟩ := List.mem_map.mp h
  exact ⟨c, h1, h2.symm⟩
theorem sgnD_len (z : Str) : (sgnD z).length = z.length := by simp [sgnD, Str.length]
theorem inD_strs (x : Str) : ∀ ys : List Str, inD (.str x) (ys.map PyData.str) = ys.contains x
  | [] => rfl
  | y :: ys => by
    have ih := inD_strs x ys
    unfold inD at ih ⊢
    rw [List.map_cons, List.any_cons, ih, List.contains_cons]
    congr 1
    rw [show PyData.eqv (.str y) (.str x) = (y == x) by simp [PyData.eqv]]
    by_cases h : y = x
    · subst h; simp
    · have h' : x ≠ y := fun z => h z.symm
      rw [beq_eq_false_iff_ne.mpr h, beq_eq_false_iff_ne.mpr h']
theorem flat_strs : ∀ ys : List Str, (ys.map PyData.str).all flatD = true
  | [] => rfl
  | y :: ys => by rw [List.map_cons, List.all_cons, flat_strs ys]; rfl
/-- parts of a text are no longer than it -/
theorem spl_len (S : List Nat) : ∀ (l : List Nat) (k : Nat) (acc : List Nat), ∀ p ∈ spl S k acc l, p.length ≤ acc.length + l.length
  | [], k, acc, p, h => by
    rw [spl_nil] at h
    simp at h
    subst h
    simp
  | c :: r, 0, acc, p, h => by
    by_cases hp : pre S (c :: r) = true
    · rw [spl_hit hp] at h
      rcases List.mem_cons.mp h with e | h
      · subst e; simp
      · have := spl_len S r _ _ p h
        simp at this ⊢
        omega
    · rw [spl_miss (by simpa using hp)] at h
      have := spl_len S r _ _ p h
      simp at this ⊢
      omega
  | c :: r, k + 1, acc, p, h => by
    have := spl_len S r k acc p h
    simp at this ⊢
    omega
theorem run_forL_nil {δ : Env} {g : D → M Unit} {mb : M Fl} {Q : Fl → Env → Prop} (h : Q .nx δ) : Run (forL g mb []) δ Q := Run.i h
theorem flat_int {i : Int} {P : Prop} (h : P) : flatD (.int i) = true ∧ P := ⟨rfl, h⟩
instance {i : Int} {P : Prop} : Step (flatD (.int i) = true ∧ P) (P) := ⟨flat_int⟩
theorem flat_str {x : Str} {P : Prop} (h : P) : flatD (.str x) = true ∧ P := ⟨rfl, h⟩
instance {x : Str} {P : Prop} : Step (flatD (.str x) = true ∧ P) (P) := ⟨flat_str⟩
theorem flat_bl {b : Bool} {P : Prop} (h : P) : flatD (.bool b) = true ∧ P := ⟨rfl, h⟩
instance {b : Bool} {P : Prop} : Step (flatD (.bool b) = true ∧ P) (P) := ⟨flat_bl⟩
theorem split_len {x y : Str} (hy : tl y ≠ []) (hk : y.cps.all (· < 256) = true) : ∀ p ∈ Txt.split x y, p.length ≤ x.length := fun p hp => by
  have e := split_spl x y hy (kind_ok hk)
  have hm : tl p ∈ spl (tl y) 0 [] (tl x) := by rw [← e]; exact List.mem_map_of_mem hp
  have := spl_len _ _ _ _ _ hm
  rw [len_tl, len_tl]
  simpa using this
theorem spl_mem (S : List Nat) : ∀ (l : List Nat) (k : Nat) (acc : List Nat), ∀ p ∈ spl S k acc l, ∀ c ∈ p, c ∈ acc ∨ c ∈ l
  | [], k, acc, p, h, c, hc => by
    rw [spl_nil] at h
    simp at h
    subst h
    exact .inl hc
  | a :: r, 0, acc, p, h, c, hc => by
    by_cases hp : pre S (a :: r) = true
    · rw [spl_hit hp] at h
      rcases List.mem_cons.mp h with e | h
      · subst e; exact .inl hc
      · rcases spl_mem S r _ _ p h c hc with z | z
        · cases z
        · exact .inr (List.mem_cons_of_mem _ z)
    · rw [spl_miss (by simpa using hp)] at h
      rcases spl_mem S r _ _ p h c hc with z | z
      · rcases List.mem_append.mp z with z | z
        · exact .inl z
        · exact .inr (by simp at z; simp [z])
      · exact .inr (List.mem_cons_of_mem _ z)
  | a :: r, k + 1, acc, p, h, c, hc => by
    rcases spl_mem S r k acc p h c hc with z | z
    · exact .inl z
    · exact .inr (List.mem_cons_of_mem _ z)
theorem split_mem {x y : Str} (hy : tl y ≠ []) (hk : y.cps.all (· < 256) = true) : ∀ p ∈ Txt.split x y, ∀ c ∈ tl p, c ∈ tl x := fun p hp c hc => by
  have e := split_spl x y hy (kind_ok hk)
  have hm : tl p ∈ spl (tl y) 0 [] (tl x) := by rw [← e]; exact List.mem_map_of_mem hp
  rcases spl_mem _ _ _ _ _ hm c hc with z | z
  · cases z
  · exact z
end Dn
namespace Dn
open PySem PySem.Spec PyProof.Rows L2 TL
theorem tl_cutS (x : Str) (lo hi : Option Int) : tl (cutS x lo hi) = ((tl x).drop (HT.sIx x.length 0 lo)).take (HT.sIx x.length x.length hi - HT.sIx x.length 0 lo) := by
  unfold cutS
  simp [tl]
/-- texts of up to n plain signs -/
def Ok (n : Nat) (x : Str) : Prop := x.length ≤ n ∧ ∀ c ∈ tl x, c < 128
theorem Ok.line {n : Nat} {x : Str} (h : Ok n x) (hn : n ≤ 16777216 := by decide) : x.length ≤ sizeLine := Nat.le_trans h.1 hn
theorem Ok.mono {n m : Nat} {x : Str} (h : Ok n x) (k : n ≤ m) : Ok m x := ⟨Nat.le_trans h.1 k, h.2⟩
theorem len_append (x y : Str) : (x ++ y).length = x.length + y.length := by rw [len_tl, len_tl, len_tl, tl_append, List.length_append]
theorem Ok.append {n m : Nat} {x y : Str} (h : Ok n x) (k : Ok m y) : Ok (n + m) (x ++ y) := ⟨by rw [len_append]; have := h.1; have := k.1; omega, fun c hc => by
  rw [tl_append] at hc
  exact (List.mem_append.mp hc).elim (h.2 c) (k.2 c)⟩
theorem cutS_mem {x : Str} {lo hi : Option Int} {c : Nat} (h : c ∈ tl (cutS x lo hi)) : c ∈ tl x := by
  rw [tl_cutS] at h
  exact List.mem_of_mem_drop (List.mem_of_mem_take h)
theorem cutS_len {x : Str} {lo hi : Option Int} : (cutS x lo hi).length ≤ x.length := by
  rw [len_tl, tl_cutS, List.length_take, List.length_drop, ← len_tl]
  omega
theorem Ok.cut {n : Nat} {x : Str} (h : Ok n x) (lo hi : Option Int) : Ok n (cutS x lo hi) := ⟨Nat.le_trans cutS_len h.1, fun c hc => h.2 c (cutS_mem hc)⟩
theorem Ok.lit (x : Str) (n : Nat) (h : (decide (x.length ≤ n) && (tl x).all (· < 128)) = true) : Ok n x := by
  rw [Bool.and_eq_true] at h
  exact ⟨of_decide_eq_true h.1, fun c hc => by simpa using List.all_eq_true.mp h.2 c hc⟩
theorem Ok.one {c : Nat} (h : c < 128) : Ok 1 ⟨#[c]⟩ := ⟨Nat.le_refl 1, fun d hd => by simp [tl] at hd; omega⟩
theorem tl_join (ss : List Str) : tl (Txt.join Str.empty ss) = ss.flatMap tl := by
  show tl (PySem.Builtin.Str.glued _ ss) = _
  rw [StrLaws.glued_eq_join]
  induction ss with
  | nil => rfl
  | cons a r ih =>
    cases r with
    | nil => simp [Str.join]
    | cons b r =>
      show tl (a ++ Str.empty ++ Str.join Str.empty (b :: r)) = _
      rw [tl_append, tl_append, ih]
      simp [tl, Str.empty]
theorem joinN_le {ss : List Str} {k : Nat} (h : ∀ s ∈ ss, s.length ≤ k) : joinN Str.empty ss ≤ ss.length * k := by
  unfold joinN
  show _ + ss.length * 0 ≤ _
  rw [Nat.mul_zero, Nat.add_zero]
  induction ss with
  | nil => simp
  | cons a r ih =>
    have h1 := h a List.mem_cons_self
    have h2 := ih fun s hs => h s (List.mem_cons_of_mem _ hs)
    rw [List.map_cons, List.sum_cons, List.length_cons, Nat.succ_mul]
    omega
theorem Ok.strOk {n : Nat} {x : Str} (h : Ok n x) : PyData.strOk x = true := by
  unfold PyData.strOk
  rw [← Array.all_toList]
  rw [List.all_eq_true]
  intro c hc
  have := h.2 c hc
  first
    | (simp; omega)
    | trace_state
theorem sep_ok {b : Nat} (hb : b < 256) : (⟨#[b]⟩ : Str).cps.all (· < 256) = true := by simp [hb]
theorem Ok.split {n b : Nat} (hb : b < 256) {x : Str} (h : Ok n x) : ∀ p ∈ Txt.split x ⟨#[b]⟩, Ok n p := fun p hp =>
  ⟨Nat.le_trans (split_len (by simp [tl]) (sep_ok hb) p hp) h.1, fun c hc => h.2 c (split_mem (by simp [tl]) (sep_ok hb) p hp c hc)⟩
def St (c : Nat) (st : List D) : Prop := ∃ a b k : Int, st = [.int a, .int b, .int k] ∧ 0 ≤ a ∧ 0 ≤ b ∧ b < 2147483647 ∧ 0 ≤ k ∧ k ≤ c
theorem St.mono {c c' : Nat} {st : List D} (h : St c st) (k : c ≤ c') : St c' st := by
  obtain ⟨a, b, k', e, h1, h2, h3, h4, h5⟩ := h
  exact ⟨a, b, k', e, h1, h2, h3, h4, by omega⟩
/-- an index within -/
theorem atI_lt {α : Type} {xs : List α} {i : Int} (h0 : 0 ≤ i) (h1 : i < xs.length) : ∃ x, atI xs i = some x ∧ x ∈ xs := by
  have hlt : i.toNat < xs.length := by omega
  refine ⟨xs[i.toNat], ?_, List.getElem_mem hlt⟩
  unfold atI ixN
  rw [if_pos h0, if_pos h1]
  simp [hlt]
theorem bx_ix_sgn {x : Str} {n : Nat} {i : Int} {Q : D → Prop} (hx : Ok n x) (hn : n ≤ 16777216) (h0 : 0 ≤ i) (h1 : i < x.length) (h : ∀ c ∈ tl x, Q (.str ⟨#[c]⟩)) : ∃ c, dIx (.str x) (.int i) = some c ∧ Q c := by
  obtain ⟨d, e, m⟩ := atI_lt (xs := tl x) h0 (by rw [← len_tl]; exact h1)
  exact bx_ix_str (hx.line hn) e (h d m)
end Dn
namespace Dn
open PySem PySem.Spec PyProof.Rows L2 TL
def abc : Str := "abcdefghijklmnopqrstuvwxyz"
theorem abc_len : abc.length = 26 := by decide
theorem abc_mem : ∀ c ∈ tl abc, 97 ≤ c ∧ c ≤ 122 := by decide
theorem abc_ok : Ok 26 abc := Ok.lit _ _ (by decide)
def Lt (s : Str) : Prop := ∃ c, s = ⟨#[c]⟩ ∧ 97 ≤ c ∧ c ≤ 122
theorem Lt.ok {s : Str} (h : Lt s) : Ok 1 s := by
  obtain ⟨c, rfl, h1, h2⟩ := h
  exact Ok.one (by omega)
def Nm (x : Str) : Prop := 2 ≤ x.length ∧ x.length ≤ 8 ∧ (∀ c ∈ tl x, 97 ≤ c ∧ c ≤ 122) ∧ (tl x).head? = some 113
theorem Nm.ok {x : Str} (h : Nm x) : Ok 8 x := ⟨h.2.1, fun c hc => by have := h.2.2.1 c hc; omega⟩
theorem ix_abc {i : Int} {Q : D → Prop} (h0 : 0 ≤ i) (h1 : i < 26) (h : ∀ s, Lt s → Q (.str s)) : ∃ c, dIx (.str abc) (.int i) = some c ∧ Q c :=
  bx_ix_sgn abc_ok (by decide) h0 (by rw [abc_len]; exact h1) fun c hc => h _ ⟨c, rfl, abc_mem c hc⟩
theorem ixN_in {n : Nat} {i : Int} (h0 : 0 ≤ i) (h1 : i < n) : ixN n i = some i.toNat := by
  unfold ixN
  rw [if_pos h0, if_pos h1]
theorem rngD_at {a : Int} {n i : Nat} {d : D} (h : (rngD a n)[i]? = some d) : d = .int (a + i) ∧ i < n := by
  unfold rngD at h
  rw [List.getElem?_map] at h
  cases q : (List.range n)[i]? with
  | none => rw [q] at h; cases h
  | some k =>
    rw [q] at h
    have hk := List.getElem?_range (n := n) (i := i)
    by_cases hi : i < n
    · rw [List.getElem?_range hi] at q
      cases q
      cases h
      exact ⟨rfl, hi⟩
    · rw [List.getElem?_eq_none (by simp; omega)] at q
      cases q
theorem rngD_length {a : Int} {n : Nat} : (rngD a n).length = n := by simp [rngD]
theorem lt_flat : ∀ ss : List Str, (∀ s ∈ ss, Lt s) → (ss.flatMap tl).length = ss.length ∧ ∀ c ∈ ss.flatMap tl, 97 ≤ c ∧ c ≤ 122
  | [], _ => ⟨rfl, fun c hc => nomatch hc⟩
  | s :: r, h => by
    obtain ⟨c, rfl, h1, h2⟩ := h s List.mem_cons_self
    obtain ⟨i1, i2⟩ := lt_flat r fun t ht => h t (List.mem_cons_of_mem _ ht)
    rw [List.flatMap_cons]
    refine ⟨by rw [List.length_append, i1]; simp [tl]; omega, fun d hd => ?_⟩
    rcases List.mem_append.mp hd with z | z
    · simp [tl] at z
      omega
    · exact i2 d z
theorem Nm.mk' {ss : List Str} {z : Str} (h : ∀ s ∈ ss, Lt s) (h1 : 1 ≤ ss.length) (h6 : ss.length ≤ 6) (hz : z = "" ∨ z = "z") : Nm ("q" ++ Txt.join "" ss ++ z) := by
  obtain ⟨i1, i2⟩ := lt_flat ss h
  have e : tl ("q" ++ Txt.join "" ss ++ z) = 113 :: ss.flatMap tl ++ tl z := by
    rw [tl_append, tl_append]
    have : Txt.join "" ss = Txt.join Str.empty ss := rfl
    rw [this, tl_join]
    rfl
  have zl : (tl z).length ≤ 1 ∧ ∀ c ∈ tl z, 97 ≤ c ∧ c ≤ 122 := by
    rcases hz with rfl | rfl
    · exact ⟨by decide, by decide⟩
    · exact ⟨by decide, by decide⟩
  refine ⟨?_, ?_, fun c hc => ?_, ?_⟩
  · rw [len_tl, e, List.length_append, List.length_cons, i1]
    omega
  · rw [len_tl, e, List.length_append, List.length_cons, i1]
    omega
  · rw [e] at hc
    rcases List.mem_append.mp hc with q | q
    · rcases List.mem_cons.mp q with q | q
      · omega
      · exact i2 c q
    · exact zl.2 c q
  · rw [e]
    rfl
end Dn
namespace Ds
open PySem PySem.Spec PyProof.Rows L2 Dn
abbrev Ev := List Cl
abbrev St := List Ob
/-- a run: what holds behind it, Y where it raises -/
@[irreducible] def RunX {α : Type} (Y : Exn → Ev → St → Prop) (m : M α) (e : Ev) (s : St) (Q : α → Ev → St → Prop) : Prop := match m ⟨e, s⟩ with
  | .ok a x => Q a x.e x.s
  | .exc y x => Y y x.e x.s
  | .bad => False
@[irreducible] def FRunX (Y : Exn → St → Prop) (F : Fn) (as : Ev) (s : St) (Q : Cl → St → Prop) : Prop := match F as s with
  | .ok c s' => Q c s'
  | .exc y s' => Y y s'
  | .bad => False
def NoY : Exn → Ev → St → Prop := fun _ _ _ => False
def NoF : Exn → St → Prop := fun _ _ => False
abbrev Run {α : Type} (m : M α) (e : Ev) (s : St) (Q : α → Ev → St → Prop) : Prop := RunX NoY m e s Q
abbrev FRun (F : Fn) (as : Ev) (s : St) (Q : Cl → St → Prop) : Prop := FRunX NoF F as s Q
section
variable {α β : Type} {e : Ev} {s : St} {m : M D} {Y : Exn → Ev → St → Prop} {YF : Exn → St → Prop}
theorem Run.i {m : M α} {Q : α → Ev → St → Prop} (h : match m ⟨e, s⟩ with
  | .ok a x => Q a x.e x.s
  | .exc y x => Y y x.e x.s
  | .bad => False) : RunX Y m e s Q := by unfold RunX; exact h
theorem run_pure {a : α} {Q : α → Ev → St → Prop} (h : Q a e s) : RunX Y (mPure a) e s Q := Run.i h
instance {a : α} {Q : α → Ev → St → Prop} : Step (RunX Y (mPure a) e s Q) (Q a e s) := ⟨run_pure⟩
theorem RunX.mono {m : M α} {Q Q' : α → Ev → St → Prop} (h : RunX Y m e s Q) (k : ∀ a e' s', Q a e' s' → Q' a e' s') : RunX Y m e s Q' := by
  unfold RunX at *
  cases q : m ⟨e, s⟩ with
  | ok a x => rw [q] at h; exact k a x.e x.s h
  | exc y x => rw [q] at h; exact h
  | bad => rw [q] at h; exact h
theorem FRunX.mono {F : Fn} {as : Ev} {Q Q' : Cl → St → Prop} (h : FRunX YF F as s Q) (k : ∀ a s', Q a s' → Q' a s') : FRunX YF F as s Q' := by
  unfold FRunX at *
  cases q : F as s with
  | ok a x => rw [q] at h; exact k a x h
  | exc y x => rw [q] at h; exact h
  | bad => rw [q] at h; exact h
theorem FRunX.to {F : Fn} {as : Ev} {Q : Cl → St → Prop} (h : FRunX NoF F as s Q) : ∃ c s', F as s = .ok c s' ∧ Q c s' := by
  unfold FRunX at h
  cases q : F as s with
  | ok a x => rw [q] at h; exact ⟨a, x, rfl, h⟩
  | exc y x => rw [q] at h; exact h.elim
  | bad => rw [q] at h; exact h.elim
theorem run_bind {m : M α} {f : α → M β} {Q : β → Ev → St → Prop} (h : RunX Y m e s fun a e' s' => RunX Y (f a) e' s' Q) : RunX Y (mBind m f) e s Q := by
  unfold RunX at *
  unfold mBind
  cases q : m ⟨e, s⟩ with
  | ok a x => rw [q] at h; exact h
  | exc y x => rw [q] at h; exact h
  | bad => rw [q] at h; exact h
theorem run_opt {o : Option α} {Q : α → Ev → St → Prop} (h : ∃ a, o = some a ∧ Q a e s) : RunX Y (mOpt o) e s Q := by
  obtain ⟨a, h1, h2⟩ := h
  subst h1
  exact Run.i h2
theorem run_optB {o : Option α} {f : α → M β} {Q : β → Ev → St → Prop} (h : ∃ a, o = some a ∧ RunX Y (f a) e s Q) : RunX Y (mBind (mOpt o) f) e s Q := run_bind (run_opt h)
theorem run_var {i : Nat} {d : D} {Q : D → Ev → St → Prop} (h : e[i]? = some (Cl.sh d)) (k : Q d e s) : RunX Y (mVar i) e s Q := by
  unfold RunX mVar
  dsimp only
  rw [h]
  exact k
theorem run_lv {i l : Nat} {Q : Nat → Ev → St → Prop} (h : e[i]? = some (Cl.lo l)) (k : Q l e s) : RunX Y (mLV i) e s Q := by
  unfold RunX mLV
  dsimp only
  rw [h]
  exact k
theorem run_clD {i : Nat} {d : D} {Q : Cl → Ev → St → Prop} (h : e[i]? = some (Cl.sh d)) (k : Q (.sh d) e s) : RunX Y (mCl i) e s Q := by
  unfold RunX mCl
  dsimp only
  rw [h]
  exact k
theorem run_clL {i l : Nat} {Q : Cl → Ev → St → Prop} (h : e[i]? = some (Cl.lo l)) (k : Q (.lo l) e s) : RunX Y (mCl i) e s Q := by
  unfold RunX mCl
  dsimp only
  rw [h]
  exact k
theorem run_sh {Q : Cl → Ev → St → Prop} (h : RunX Y m e s fun d e' s' => Q (.sh d) e' s') : RunX Y (mSh m) e s Q := run_bind (h.mono fun _ _ _ h => run_pure h)
instance {Q : Cl → Ev → St → Prop} : Step (RunX Y (mSh m) e s Q) (RunX Y m e s fun d e' s' => Q (.sh d) e' s') := ⟨run_sh⟩
theorem run_lo {m : M Nat} {Q : Cl → Ev → St → Prop} (h : RunX Y m e s fun d e' s' => Q (.lo d) e' s') : RunX Y (mLo m) e s Q := run_bind (h.mono fun _ _ _ h => run_pure h)
instance {m : M Nat} {Q : Cl → Ev → St → Prop} : Step (RunX Y (mLo m) e s Q) (RunX Y m e s fun d e' s' => Q (.lo d) e' s') := ⟨run_lo⟩
theorem run_d {m : M Cl} {Q : D → Ev → St → Prop} (h : RunX Y m e s fun c e' s' => ∃ d, toD c = some d ∧ Q d e' s') : RunX Y (mD m) e s Q := run_bind (h.mono fun _ _ _ h => run_opt h)
instance {m : M Cl} {Q : D → Ev → St → Prop} : Step (RunX Y (mD m) e s Q) (RunX Y m e s fun c e' s' => ∃ d, toD c = some d ∧ Q d e' s') := ⟨run_d⟩
theorem run_l {m : M Cl} {Q : Nat → Ev → St → Prop} (h : RunX Y m e s fun c e' s' => ∃ d, toL c = some d ∧ Q d e' s') : RunX Y (mL m) e s Q := run_bind (h.mono fun _ _ _ h => run_opt h)
instance {m : M Cl} {Q : Nat → Ev → St → Prop} : Step (RunX Y (mL m) e s Q) (RunX Y m e s fun c e' s' => ∃ d, toL c = some d ∧ Q d e' s') := ⟨run_l⟩
theorem run_c {d : D} {Q : D → Ev → St → Prop} (k : Q d e s) : RunX Y (mC d) e s Q := run_pure k
instance {d : D} {Q : D → Ev → St → Prop} : Step (RunX Y (mC d) e s Q) (Q d e s) := ⟨run_c⟩
theorem run_bin {g : D → D → Option D} {ma mb : M D} {Q : D → Ev → St → Prop} (h : RunX Y ma e s fun d e1 s1 => RunX Y mb e1 s1 fun c e2 s2 => ∃ r, g d c = some r ∧ Q r e2 s2) : RunX Y (mBin g ma mb) e s Q :=
  run_bind (h.mono fun _ _ _ h => run_bind (h.mono fun _ _ _ h => run_opt h))
instance {g : D → D → Option D} {ma mb : M D} {Q : D → Ev → St → Prop} : Step (RunX Y (mBin g ma mb) e s Q) (RunX Y ma e s fun d e1 s1 => RunX Y mb e1 s1 fun c e2 s2 => ∃ r, g d c = some r ∧ Q r e2 s2) := ⟨run_bin⟩
theorem run_test {Q : Bool → Ev → St → Prop} (h : RunX Y m e s fun d e1 s1 => ∃ b, toB d = some b ∧ Q b e1 s1) : RunX Y (mTest m) e s Q := run_bind (h.mono fun _ _ _ h => run_opt h)
instance {Q : Bool → Ev → St → Prop} : Step (RunX Y (mTest m) e s Q) (RunX Y m e s fun d e1 s1 => ∃ b, toB d = some b ∧ Q b e1 s1) := ⟨run_test⟩
theorem run_chain {g g' : D → D → Option D} {ma mb mc : M D} {Q : D → Ev → St → Prop} (h : RunX Y ma e s fun d e1 s1 => RunX Y mb e1 s1 fun c e2 s2 => ∃ r, g d c = some r ∧ ∃ b, toB r = some b ∧ (b = true → RunX Y mc e2 s2 fun f e3 s3 => ∃ r, g' c f = some r ∧ Q r e3 s3) ∧ (b = false → Q (.bool false) e2 s2)) : RunX Y (mChain g g' ma mb mc) e s Q :=
  run_bind (h.mono fun d _ _ h => run_bind (h.mono fun c _ _ ⟨r, h1, b, h2, h3, h4⟩ => run_optB ⟨b, by rw [h1]; exact h2, by
    cases b with
    | true => exact run_bind ((h3 rfl).mono fun _ _ _ h => run_opt h)
    | false => exact run_pure (h4 rfl)⟩))
instance {g g' : D → D → Option D} {ma mb mc : M D} {Q : D → Ev → St → Prop} : Step (RunX Y (mChain g g' ma mb mc) e s Q) (RunX Y ma e s fun d e1 s1 => RunX Y mb e1 s1 fun c e2 s2 => ∃ r, g d c = some r ∧ ∃ b, toB r = some b ∧ (b = true → RunX Y mc e2 s2 fun f e3 s3 => ∃ r, g' c f = some r ∧ Q r e3 s3) ∧ (b = false → Q (.bool false) e2 s2)) := ⟨run_chain⟩
theorem run_ag0 {Q : List Cl → Ev → St → Prop} (k : Q [] e s) : RunX Y (evA []) e s Q := Run.i k
instance {Q : List Cl → Ev → St → Prop} : Step (RunX Y (evA []) e s Q) (Q [] e s) := ⟨run_ag0⟩
theorem run_agC {m : M Cl} {as : List (M Cl)} {Q : List Cl → Ev → St → Prop} (h : RunX Y m e s fun c e1 s1 => RunX Y (evA as) e1 s1 fun cs e2 s2 => Q (c :: cs) e2 s2) : RunX Y (evA (m :: as)) e s Q := run_bind (h.mono fun _ _ _ h => run_bind (h.mono fun _ _ _ h => run_pure h))
instance {m : M Cl} {as : List (M Cl)} {Q : List Cl → Ev → St → Prop} : Step (RunX Y (evA (m :: as)) e s Q) (RunX Y m e s fun c e1 s1 => RunX Y (evA as) e1 s1 fun cs e2 s2 => Q (c :: cs) e2 s2) := ⟨run_agC⟩
theorem run_callB {g : List D → Option D} {as : List (M Cl)} {Q : D → Ev → St → Prop} (h : RunX Y (evA as) e s fun cs e1 s1 => ∃ ds, shL cs = some ds ∧ ∃ c, g ds = some c ∧ Q c e1 s1) : RunX Y (mCallB g as) e s Q :=
  run_bind (h.mono fun cs _ _ ⟨ds, h1, c, h2, h3⟩ => run_opt ⟨c, by rw [h1]; exact h2, h3⟩)
instance {g : List D → Option D} {as : List (M Cl)} {Q : D → Ev → St → Prop} : Step (RunX Y (mCallB g as) e s Q) (RunX Y (evA as) e s fun cs e1 s1 => ∃ ds, shL cs = some ds ∧ ∃ c, g ds = some c ∧ Q c e1 s1) := ⟨run_callB⟩
theorem run_callC {g : List D → Option D} {as : List (M Cl)} {Q : D → Ev → St → Prop} (h : RunX Y (evA as) e s fun cs e1 s1 => ∃ ds, snaps s1 cs = some ds ∧ ∃ c, g ds = some c ∧ flatD c = true ∧ Q c e1 s1) : RunX Y (mCallC g as) e s Q :=
  run_bind (h.mono fun cs _ _ ⟨ds, h1, c, h2, h3, h4⟩ => Run.i (by
    dsimp only
    rw [h1, Option.bind_some, h2]
    dsimp only
    rw [if_pos h3]
    exact h4))
instance {g : List D → Option D} {as : List (M Cl)} {Q : D → Ev → St → Prop} : Step (RunX Y (mCallC g as) e s Q) (RunX Y (evA as) e s fun cs e1 s1 => ∃ ds, snaps s1 cs = some ds ∧ ∃ c, g ds = some c ∧ flatD c = true ∧ Q c e1 s1) := ⟨run_callC⟩
theorem run_call {F : Fn} {as : List (M Cl)} {Q : Cl → Ev → St → Prop} (h : RunX Y (evA as) e s fun cs e1 s1 => FRunX NoF F cs s1 fun c s2 => Q c e1 s2) : RunX Y (mCall F as) e s Q :=
  run_bind (h.mono fun cs e1 s1 h => Run.i (by
    obtain ⟨c, s2, h1, h2⟩ := h.to
    dsimp only
    rw [h1]
    exact h2))
instance {F : Fn} {as : List (M Cl)} {Q : Cl → Ev → St → Prop} : Step (RunX Y (mCall F as) e s Q) (RunX Y (evA as) e s fun cs e1 s1 => FRunX NoF F cs s1 fun c s2 => Q c e1 s2) := ⟨run_call⟩
theorem run_ixC {m : M D} {mc : M Cl} {Q : Cl → Ev → St → Prop} (h : RunX Y mc e s fun c e1 s1 => RunX Y m e1 s1 fun i e2 s2 => ∃ k, ixC s2 c i = some k ∧ Q k e2 s2) : RunX Y (mIxC mc m) e s Q :=
  run_bind (h.mono fun c e1 s1 h => run_bind (h.mono fun i e2 s2 ⟨k, h1, h2⟩ => Run.i (by
    dsimp only
    rw [h1]
    exact h2)))
instance {m : M D} {mc : M Cl} {Q : Cl → Ev → St → Prop} : Step (RunX Y (mIxC mc m) e s Q) (RunX Y mc e s fun c e1 s1 => RunX Y m e1 s1 fun i e2 s2 => ∃ k, ixC s2 c i = some k ∧ Q k e2 s2) := ⟨run_ixC⟩
theorem run_slC {mc : M Cl} {ml mh : M (Option Int)} {Q : D → Ev → St → Prop} (h : RunX Y mc e s fun c e1 s1 => RunX Y ml e1 s1 fun l e2 s2 => RunX Y mh e2 s2 fun u e3 s3 => ∃ d, snap s3 c = some d ∧ ∃ r, dSl d l u = some r ∧ Q r e3 s3) : RunX Y (mSlC mc ml mh) e s Q :=
  run_bind (h.mono fun c _ _ h => run_bind (h.mono fun l _ _ h => run_bind (h.mono fun u _ _ ⟨d, h1, r, h2, h3⟩ => Run.i (by
    dsimp only
    rw [h1]
    dsimp only
    rw [h2]
    exact h3))))
instance {mc : M Cl} {ml mh : M (Option Int)} {Q : D → Ev → St → Prop} : Step (RunX Y (mSlC mc ml mh) e s Q) (RunX Y mc e s fun c e1 s1 => RunX Y ml e1 s1 fun l e2 s2 => RunX Y mh e2 s2 fun u e3 s3 => ∃ d, snap s3 c = some d ∧ ∃ r, dSl d l u = some r ∧ Q r e3 s3) := ⟨run_slC⟩
theorem run_sl {ml mh : M (Option Int)} {Q : D → Ev → St → Prop} (h : RunX Y m e s fun d e1 s1 => RunX Y ml e1 s1 fun l e2 s2 => RunX Y mh e2 s2 fun u e3 s3 => ∃ c, dSl d l u = some c ∧ Q c e3 s3) : RunX Y (mSl m ml mh) e s Q := run_bind (h.mono fun _ _ _ h => run_bind (h.mono fun _ _ _ h => run_bind (h.mono fun _ _ _ h => run_opt h)))
instance {ml mh : M (Option Int)} {Q : D → Ev → St → Prop} : Step (RunX Y (mSl m ml mh) e s Q) (RunX Y m e s fun d e1 s1 => RunX Y ml e1 s1 fun l e2 s2 => RunX Y mh e2 s2 fun u e3 s3 => ∃ c, dSl d l u = some c ∧ Q c e3 s3) := ⟨run_sl⟩
theorem run_part {Q : Option Int → Ev → St → Prop} (h : RunX Y m e s fun d e1 s1 => ∃ c, toI d = some c ∧ Q c e1 s1) : RunX Y (mPart m) e s Q := run_bind (h.mono fun _ _ _ h => run_opt h)
instance {Q : Option Int → Ev → St → Prop} : Step (RunX Y (mPart m) e s Q) (RunX Y m e s fun d e1 s1 => ∃ c, toI d = some c ∧ Q c e1 s1) := ⟨run_part⟩
theorem run_noPart {Q : Option Int → Ev → St → Prop} (h : Q none e s) : RunX Y mNoPart e s Q := run_pure h
instance {Q : Option Int → Ev → St → Prop} : Step (RunX Y mNoPart e s Q) (Q none e s) := ⟨run_noPart⟩
theorem run_isi {Tn : String} {Q : D → Ev → St → Prop} (h : RunX Y m e s fun d e1 s1 => ∃ b, kitB (tyD d) Tn = some b ∧ Q (.bool b) e1 s1) : RunX Y (mIsi Tn m) e s Q :=
  run_bind (h.mono fun d _ _ ⟨b, h1, h2⟩ => run_opt ⟨_, by rw [h1]; rfl, h2⟩)
instance {Tn : String} {Q : D → Ev → St → Prop} : Step (RunX Y (mIsi Tn m) e s Q) (RunX Y m e s fun d e1 s1 => ∃ b, kitB (tyD d) Tn = some b ∧ Q (.bool b) e1 s1) := ⟨run_isi⟩
theorem run_m1 {g : Str → List D → Option D} {mo : M D} {Q : D → Ev → St → Prop} (h : RunX Y mo e s fun d e1 s1 => ∃ z, toS d = some z ∧ RunX Y m e1 s1 fun a e2 s2 => ∃ c, g z [a] = some c ∧ Q c e2 s2) : RunX Y (mM1 g mo m) e s Q :=
  run_bind (h.mono fun _ _ _ ⟨z, h1, h2⟩ => run_optB ⟨z, h1, run_bind (h2.mono fun _ _ _ h => run_opt h)⟩)
instance {g : Str → List D → Option D} {mo : M D} {Q : D → Ev → St → Prop} : Step (RunX Y (mM1 g mo m) e s Q) (RunX Y mo e s fun d e1 s1 => ∃ z, toS d = some z ∧ RunX Y m e1 s1 fun a e2 s2 => ∃ c, g z [a] = some c ∧ Q c e2 s2) := ⟨run_m1⟩
theorem run_m1C {g : Str → List D → Option D} {mo : M D} {mc : M Cl} {Q : D → Ev → St → Prop} (h : RunX Y mo e s fun d e1 s1 => ∃ z, toS d = some z ∧ RunX Y mc e1 s1 fun c e2 s2 => ∃ d, snap s2 c = some d ∧ ∃ r, g z [d] = some r ∧ flatD r = true ∧ Q r e2 s2) : RunX Y (mM1C g mo mc) e s Q :=
  run_bind (h.mono fun _ _ _ ⟨z, h1, h2⟩ => run_optB ⟨z, h1, run_bind (h2.mono fun c _ _ ⟨d, h3, r, h4, h5, h6⟩ => Run.i (by
    dsimp only
    rw [h3, Option.bind_some, h4]
    dsimp only
    rw [if_pos h5]
    exact h6))⟩)
instance {g : Str → List D → Option D} {mo : M D} {mc : M Cl} {Q : D → Ev → St → Prop} : Step (RunX Y (mM1C g mo mc) e s Q) (RunX Y mo e s fun d e1 s1 => ∃ z, toS d = some z ∧ RunX Y mc e1 s1 fun c e2 s2 => ∃ d, snap s2 c = some d ∧ ∃ r, g z [d] = some r ∧ flatD r = true ∧ Q r e2 s2) := ⟨run_m1C⟩
theorem run_binC {g : D → D → Option D} {mc mk : M Cl} {Q : D → Ev → St → Prop} (h : RunX Y mc e s fun c e1 s1 => RunX Y mk e1 s1 fun k e2 s2 => ∃ a b, snap s2 c = some a ∧ snap s2 k = some b ∧ ∃ r, g a b = some r ∧ flatD r = true ∧ Q r e2 s2) : RunX Y (mBinC g mc mk) e s Q :=
  run_bind (h.mono fun _ _ _ h => run_bind (h.mono fun _ _ _ ⟨a, b, h1, h2, r, h3, h4, h5⟩ => Run.i (by
    dsimp only
    rw [h1, h2, Option.bind_some, Option.bind_some, h3]
    dsimp only
    rw [if_pos h4]
    exact h5)))
instance {g : D → D → Option D} {mc mk : M Cl} {Q : D → Ev → St → Prop} : Step (RunX Y (mBinC g mc mk) e s Q) (RunX Y mc e s fun c e1 s1 => RunX Y mk e1 s1 fun k e2 s2 => ∃ a b, snap s2 c = some a ∧ snap s2 k = some b ∧ ∃ r, g a b = some r ∧ flatD r = true ∧ Q r e2 s2) := ⟨run_binC⟩
theorem run_shs {as : List (M Cl)} {Q : List D → Ev → St → Prop} (h : RunX Y (evA as) e s fun cs e1 s1 => ∃ ds, shL cs = some ds ∧ ds.length ≤ sizeLine ∧ Q ds e1 s1) : RunX Y (mShs as) e s Q :=
  run_bind (h.mono fun gs _ _ ⟨ds, h1, h2, h3⟩ => run_opt ⟨ds, by rw [h1]; simp [Option.filter, h2], h3⟩)
theorem run_tup {as : List (M Cl)} {Q : D → Ev → St → Prop} (h : RunX Y (evA as) e s fun cs e1 s1 => ∃ ds, shL cs = some ds ∧ ds.length ≤ sizeLine ∧ Q (.tuple ds) e1 s1) : RunX Y (mTup as) e s Q := run_bind (run_shs (h.mono fun _ _ _ ⟨ds, a, b, c⟩ => ⟨ds, a, b, run_pure c⟩))
instance {as : List (M Cl)} {Q : D → Ev → St → Prop} : Step (RunX Y (mTup as) e s Q) (RunX Y (evA as) e s fun cs e1 s1 => ∃ ds, shL cs = some ds ∧ ds.length ≤ sizeLine ∧ Q (.tuple ds) e1 s1) := ⟨run_tup⟩
theorem run_lst {as : List (M Cl)} {Q : D → Ev → St → Prop} (h : RunX Y (evA as) e s fun cs e1 s1 => ∃ ds, shL cs = some ds ∧ ds.length ≤ sizeLine ∧ Q (.list ds) e1 s1) : RunX Y (mLst as) e s Q := run_bind (run_shs (h.mono fun _ _ _ ⟨ds, a, b, c⟩ => ⟨ds, a, b, run_pure c⟩))
instance {as : List (M Cl)} {Q : D → Ev → St → Prop} : Step (RunX Y (mLst as) e s Q) (RunX Y (evA as) e s fun cs e1 s1 => ∃ ds, shL cs = some ds ∧ ds.length ≤ sizeLine ∧ Q (.list ds) e1 s1) := ⟨run_lst⟩
theorem run_lsO {as : List (M Cl)} {Q : List Cl → Ev → St → Prop} (h : RunX Y (evA as) e s fun cs e1 s1 => cs.length ≤ sizeLine ∧ Q cs e1 s1) : RunX Y (mLsO as) e s Q := run_bind (h.mono fun cs _ _ ⟨a, b⟩ => run_opt ⟨cs, if_pos a, b⟩)
instance {as : List (M Cl)} {Q : List Cl → Ev → St → Prop} : Step (RunX Y (mLsO as) e s Q) (RunX Y (evA as) e s fun cs e1 s1 => cs.length ≤ sizeLine ∧ Q cs e1 s1) := ⟨run_lsO⟩
theorem run_fr {m : M (List Cl)} {Q : D → Ev → St → Prop} (h : RunX Y m e s fun cs e1 s1 => ∃ ds, shL cs = some ds ∧ Q (.list ds) e1 s1) : RunX Y (mFr m) e s Q := run_bind (h.mono fun cs _ _ ⟨ds, a, b⟩ => run_opt ⟨_, by rw [a]; rfl, b⟩)
instance {m : M (List Cl)} {Q : D → Ev → St → Prop} : Step (RunX Y (mFr m) e s Q) (RunX Y m e s fun cs e1 s1 => ∃ ds, shL cs = some ds ∧ Q (.list ds) e1 s1) := ⟨run_fr⟩
theorem run_new {m : M (List Cl)} {Q : Nat → Ev → St → Prop} (h : RunX Y m e s fun cs e1 s1 => Q s1.length e1 (s1 ++ [.lst cs])) : RunX Y (mNew m) e s Q := run_bind (h.mono fun cs _ _ h => Run.i h)
instance {m : M (List Cl)} {Q : Nat → Ev → St → Prop} : Step (RunX Y (mNew m) e s Q) (RunX Y m e s fun cs e1 s1 => Q s1.length e1 (s1 ++ [.lst cs])) := ⟨run_new⟩
theorem run_seal {m : M Nat} {Q : D → Ev → St → Prop} (h : RunX Y m e s fun l e1 s1 => ∃ xs ds, s1[l]? = some (.lst xs) ∧ shL xs = some ds ∧ Q (.list ds) e1 (s1.set l .gone)) : RunX Y (mSeal m) e s Q :=
  run_bind (h.mono fun l _ _ ⟨xs, ds, h1, h2, h3⟩ => Run.i (by
    dsimp only
    rw [h1]
    dsimp only
    rw [h2]
    exact h3))
instance {m : M Nat} {Q : D → Ev → St → Prop} : Step (RunX Y (mSeal m) e s Q) (RunX Y m e s fun l e1 s1 => ∃ xs ds, s1[l]? = some (.lst xs) ∧ shL xs = some ds ∧ Q (.list ds) e1 (s1.set l .gone)) := ⟨run_seal⟩
theorem run_listOf {mc : M Cl} {Q : List Cl → Ev → St → Prop} (h : RunX Y mc e s fun c e1 s1 => ∃ d xs, snap s1 c = some d ∧ itemsD d = some xs ∧ Q (xs.map Cl.sh) e1 s1) : RunX Y (mListOf mc) e s Q :=
  run_bind (run_agC (h.mono fun c _ s1 ⟨d, xs, h1, h2, h3⟩ => run_ag0 (Run.i (by
    dsimp only
    have : snaps s1 [c] = some [d] := by unfold snaps; rw [h1]; rfl
    rw [this]
    dsimp only
    rw [h2]
    exact h3))))
instance {mc : M Cl} {Q : List Cl → Ev → St → Prop} : Step (RunX Y (mListOf mc) e s Q) (RunX Y mc e s fun c e1 s1 => ∃ d xs, snap s1 c = some d ∧ itemsD d = some xs ∧ Q (xs.map Cl.sh) e1 s1) := ⟨run_listOf⟩
theorem run_tupOf {mc : M Cl} {Q : D → Ev → St → Prop} (h : RunX Y mc e s fun c e1 s1 => ∃ d xs, snap s1 c = some d ∧ itemsD d = some xs ∧ Q (.tuple xs) e1 s1) : RunX Y (mTupOf mc) e s Q :=
  run_bind (run_agC (h.mono fun c _ s1 ⟨d, xs, h1, h2, h3⟩ => run_ag0 (Run.i (by
    dsimp only
    have : snaps s1 [c] = some [d] := by unfold snaps; rw [h1]; rfl
    rw [this]
    dsimp only
    rw [h2]
    exact h3))))
instance {mc : M Cl} {Q : D → Ev → St → Prop} : Step (RunX Y (mTupOf mc) e s Q) (RunX Y mc e s fun c e1 s1 => ∃ d xs, snap s1 c = some d ∧ itemsD d = some xs ∧ Q (.tuple xs) e1 s1) := ⟨run_tupOf⟩
theorem run_catO {mc mk : M Cl} {Q : List Cl → Ev → St → Prop} (h : RunX Y mc e s fun c e1 s1 => RunX Y mk e1 s1 fun k e2 s2 => ∃ xs ys, snap s2 c = some (.list xs) ∧ snap s2 k = some (.list ys) ∧ xs.length + ys.length ≤ sizeLine ∧ Q ((xs ++ ys).map Cl.sh) e2 s2) : RunX Y (mCatO mc mk) e s Q :=
  run_bind (h.mono fun _ _ _ h => run_bind (h.mono fun _ _ _ ⟨xs, ys, h1, h2, h3, h4⟩ => Run.i (by
    dsimp only
    rw [h1, h2]
    dsimp only
    rw [if_pos h3]
    exact h4)))
instance {mc mk : M Cl} {Q : List Cl → Ev → St → Prop} : Step (RunX Y (mCatO mc mk) e s Q) (RunX Y mc e s fun c e1 s1 => RunX Y mk e1 s1 fun k e2 s2 => ∃ xs ys, snap s2 c = some (.list xs) ∧ snap s2 k = some (.list ys) ∧ xs.length + ys.length ≤ sizeLine ∧ Q ((xs ++ ys).map Cl.sh) e2 s2) := ⟨run_catO⟩
theorem run_texts {f : List Str → D} {mc : M Cl} {Q : D → Ev → St → Prop} (h : RunX Y mc e s fun c e1 s1 => ∃ d xs ts, snap s1 c = some d ∧ itemsD d = some xs ∧ toSs xs = some ts ∧ ts.length + 1 < scanBound ∧ Q (f (metT ts)) e1 s1) : RunX Y (mTexts f mc) e s Q :=
  run_bind (h.mono fun c _ _ ⟨d, xs, ts, h1, h2, h3, h4, h5⟩ => Run.i (by
    dsimp only
    rw [h1, Option.bind_some, h2, Option.bind_some, h3]
    dsimp only
    rw [if_pos h4]
    exact h5))
instance {f : List Str → D} {mc : M Cl} {Q : D → Ev → St → Prop} : Step (RunX Y (mTexts f mc) e s Q) (RunX Y mc e s fun c e1 s1 => ∃ d xs ts, snap s1 c = some d ∧ itemsD d = some xs ∧ toSs xs = some ts ∧ ts.length + 1 < scanBound ∧ Q (f (metT ts)) e1 s1) := ⟨run_texts⟩
theorem run_kin {neg : Bool} {ks : List Str} {Q : D → Ev → St → Prop} (h : RunX Y m e s fun d e1 s1 => ∃ z, toS d = some z ∧ Q (.bool (if neg then !ks.contains z else ks.contains z)) e1 s1) : RunX Y (mKIn neg ks m) e s Q := run_bind (h.mono fun _ _ _ ⟨z, h1, h2⟩ => run_opt ⟨_, by rw [h1]; rfl, h2⟩)
instance {neg : Bool} {ks : List Str} {Q : D → Ev → St → Prop} : Step (RunX Y (mKIn neg ks m) e s Q) (RunX Y m e s fun d e1 s1 => ∃ z, toS d = some z ∧ Q (.bool (if neg then !ks.contains z else ks.contains z)) e1 s1) := ⟨run_kin⟩
theorem run_dget {ml : M Nat} {mk : M D} {Q : Cl → Ev → St → Prop} (h : RunX Y ml e s fun l e1 s1 => RunX Y mk e1 s1 fun d e2 s2 => ∃ kvs k c, s2[l]? = some (.dk kvs) ∧ toK d = some k ∧ valC kvs k = some c ∧ Q c e2 s2) : RunX Y (mDGet ml mk) e s Q :=
  run_bind (h.mono fun l _ _ h => run_bind (h.mono fun d _ _ ⟨kvs, k, c, h1, h2, h3, h4⟩ => Run.i (by
    dsimp only
    rw [h1, h2]
    dsimp only
    rw [h3]
    exact h4)))
instance {ml : M Nat} {mk : M D} {Q : Cl → Ev → St → Prop} : Step (RunX Y (mDGet ml mk) e s Q) (RunX Y ml e s fun l e1 s1 => RunX Y mk e1 s1 fun d e2 s2 => ∃ kvs k c, s2[l]? = some (.dk kvs) ∧ toK d = some k ∧ valC kvs k = some c ∧ Q c e2 s2) := ⟨run_dget⟩
theorem run_dput {ml : M Nat} {mk : M D} {mc : M Cl} {Q : Fl → Ev → St → Prop} (h : RunX Y mc e s fun c e1 s1 => RunX Y ml e1 s1 fun l e2 s2 => RunX Y mk e2 s2 fun d e3 s3 => ∃ kvs k, s3[l]? = some (.dk kvs) ∧ toK d = some k ∧ kvs.length < sizeLine ∧ Q .nx e3 (s3.set l (.dk (putC kvs k c)))) : RunX Y (mDPut ml mk mc) e s Q :=
  run_bind (h.mono fun _ _ _ h => run_bind (h.mono fun _ _ _ h => run_bind (h.mono fun _ _ _ ⟨kvs, k, h1, h2, h3, h4⟩ => Run.i (by
    dsimp only
    rw [h1, h2]
    dsimp only
    rw [if_pos h3]
    exact h4))))
instance {ml : M Nat} {mk : M D} {mc : M Cl} {Q : Fl → Ev → St → Prop} : Step (RunX Y (mDPut ml mk mc) e s Q) (RunX Y mc e s fun c e1 s1 => RunX Y ml e1 s1 fun l e2 s2 => RunX Y mk e2 s2 fun d e3 s3 => ∃ kvs k, s3[l]? = some (.dk kvs) ∧ toK d = some k ∧ kvs.length < sizeLine ∧ Q .nx e3 (s3.set l (.dk (putC kvs k c)))) := ⟨run_dput⟩
theorem run_din {neg : Bool} {ml : M Nat} {mk : M D} {Q : D → Ev → St → Prop} (h : RunX Y mk e s fun d e1 s1 => RunX Y ml e1 s1 fun l e2 s2 => ∃ kvs k, s2[l]? = some (.dk kvs) ∧ toK d = some k ∧ Q (.bool (if neg then !(valC kvs k).isSome else (valC kvs k).isSome)) e2 s2) : RunX Y (mDIn neg mk ml) e s Q :=
  run_bind (h.mono fun _ _ _ h => run_bind (h.mono fun _ _ _ ⟨kvs, k, h1, h2, h3⟩ => Run.i (by
    dsimp only
    rw [h1, h2]
    exact h3)))
instance {neg : Bool} {ml : M Nat} {mk : M D} {Q : D → Ev → St → Prop} : Step (RunX Y (mDIn neg mk ml) e s Q) (RunX Y mk e s fun d e1 s1 => RunX Y ml e1 s1 fun l e2 s2 => ∃ kvs k, s2[l]? = some (.dk kvs) ∧ toK d = some k ∧ Q (.bool (if neg then !(valC kvs k).isSome else (valC kvs k).isSome)) e2 s2) := ⟨run_din⟩
theorem run_dnew {Q : Nat → Ev → St → Prop} (h : Q s.length e (s ++ [.dk []])) : RunX Y mDNew e s Q := Run.i h
instance {Q : Nat → Ev → St → Prop} : Step (RunX Y mDNew e s Q) (Q s.length e (s ++ [.dk []])) := ⟨run_dnew⟩
theorem run_p0 {Q : List (Key × Cl) → Ev → St → Prop} (k : Q [] e s) : RunX Y (evP []) e s Q := Run.i k
instance {Q : List (Key × Cl) → Ev → St → Prop} : Step (RunX Y (evP []) e s Q) (Q [] e s) := ⟨run_p0⟩
theorem run_p1 {mk : M D} {mc : M Cl} {r : List (M D × M Cl)} {Q : List (Key × Cl) → Ev → St → Prop} (h : RunX Y mk e s fun d e1 s1 => ∃ k, toK d = some k ∧ RunX Y mc e1 s1 fun c e2 s2 => RunX Y (evP r) e2 s2 fun ps e3 s3 => Q ((k, c) :: ps) e3 s3) : RunX Y (evP ((mk, mc) :: r)) e s Q :=
  run_bind (h.mono fun _ _ _ ⟨k, h1, h2⟩ => run_optB ⟨k, h1, run_bind (h2.mono fun _ _ _ h => run_bind (h.mono fun _ _ _ h => run_pure h))⟩)
instance {mk : M D} {mc : M Cl} {r : List (M D × M Cl)} {Q : List (Key × Cl) → Ev → St → Prop} : Step (RunX Y (evP ((mk, mc) :: r)) e s Q) (RunX Y mk e s fun d e1 s1 => ∃ k, toK d = some k ∧ RunX Y mc e1 s1 fun c e2 s2 => RunX Y (evP r) e2 s2 fun ps e3 s3 => Q ((k, c) :: ps) e3 s3) := ⟨run_p1⟩
theorem run_disp {ps : List (M D × M Cl)} {Q : Nat → Ev → St → Prop} (h : RunX Y (evP ps) e s fun kvs e1 s1 => kvs.length ≤ 15 ∧ Q s1.length e1 (s1 ++ [.dk (mergeC [] kvs)])) : RunX Y (mDisp ps) e s Q :=
  run_bind (h.mono fun kvs _ _ ⟨h1, h2⟩ => run_optB ⟨(), if_pos h1, Run.i h2⟩)
instance {ps : List (M D × M Cl)} {Q : Nat → Ev → St → Prop} : Step (RunX Y (mDisp ps) e s Q) (RunX Y (evP ps) e s fun kvs e1 s1 => kvs.length ≤ 15 ∧ Q s1.length e1 (s1 ++ [.dk (mergeC [] kvs)])) := ⟨run_disp⟩
theorem run_isDk {l : Nat} {Q : Nat → Ev → St → Prop} (h : ∃ kvs, s[l]? = some (.dk kvs) ∧ Q l e s) : RunX Y (isDk l) e s Q := by
  obtain ⟨kvs, h1, h2⟩ := h
  refine Run.i ?_
  unfold isDk
  dsimp only
  rw [h1]
  exact h2
theorem run_upd {ml mo : M Nat} {Q : Fl → Ev → St → Prop} (h : RunX Y ml e s fun l e1 s1 => ∃ k0, s1[l]? = some (.dk k0) ∧ RunX Y mo e1 s1 fun k e2 s2 => ∃ kvs more, s2[l]? = some (.dk kvs) ∧ s2[k]? = some (.dk more) ∧ (l ≠ k ∧ kvs.length + more.length ≤ sizeLine) ∧ Q .nx e2 (s2.set l (.dk (mergeC kvs more)))) : RunX Y (mUpd ml mo) e s Q :=
  run_bind (h.mono fun l _ _ ⟨k0, h0, h⟩ => run_bind (run_isDk ⟨k0, h0, run_bind (h.mono fun k _ _ ⟨kvs, more, h1, h2, h3, h4⟩ => Run.i (by
    dsimp only
    rw [h1, h2]
    dsimp only
    rw [if_pos h3]
    exact h4))⟩))
instance {ml mo : M Nat} {Q : Fl → Ev → St → Prop} : Step (RunX Y (mUpd ml mo) e s Q) (RunX Y ml e s fun l e1 s1 => ∃ k0, s1[l]? = some (.dk k0) ∧ RunX Y mo e1 s1 fun k e2 s2 => ∃ kvs more, s2[l]? = some (.dk kvs) ∧ s2[k]? = some (.dk more) ∧ (l ≠ k ∧ kvs.length + more.length ≤ sizeLine) ∧ Q .nx e2 (s2.set l (.dk (mergeC kvs more)))) := ⟨run_upd⟩
theorem run_isLst {l : Nat} {Q : Nat → Ev → St → Prop} (h : ∃ xs, s[l]? = some (.lst xs) ∧ Q l e s) : RunX Y (isLst l) e s Q := by
  obtain ⟨kvs, h1, h2⟩ := h
  refine Run.i ?_
  unfold isLst
  dsimp only
  rw [h1]
  exact h2
theorem run_app {ml : M Nat} {mc : M Cl} {Q : Fl → Ev → St → Prop} (h : RunX Y ml e s fun l e1 s1 => ∃ x0, s1[l]? = some (.lst x0) ∧ RunX Y mc e1 s1 fun c e2 s2 => ∃ xs, s2[l]? = some (.lst xs) ∧ xs.length < sizeLine ∧ Q .nx e2 (s2.set l (.lst (xs ++ [c])))) : RunX Y (mApp ml mc) e s Q :=
  run_bind (run_bind (h.mono fun l _ _ ⟨x0, h0, h⟩ => run_isLst ⟨x0, h0, run_bind (h.mono fun c _ _ ⟨xs, h1, h2, h3⟩ => Run.i (by
    dsimp only
    rw [h1]
    dsimp only
    rw [if_pos h2]
    exact h3))⟩))
instance {ml : M Nat} {mc : M Cl} {Q : Fl → Ev → St → Prop} : Step (RunX Y (mApp ml mc) e s Q) (RunX Y ml e s fun l e1 s1 => ∃ x0, s1[l]? = some (.lst x0) ∧ RunX Y mc e1 s1 fun c e2 s2 => ∃ xs, s2[l]? = some (.lst xs) ∧ xs.length < sizeLine ∧ Q .nx e2 (s2.set l (.lst (xs ++ [c])))) := ⟨run_app⟩
theorem run_popAt {ml : M Nat} {mi : M D} {Q : Cl → Ev → St → Prop} (h : RunX Y ml e s fun l e1 s1 => ∃ x0, s1[l]? = some (.lst x0) ∧ RunX Y mi e1 s1 fun d e2 s2 => ∃ xs n c, s2[l]? = some (.lst xs) ∧ d = .int n ∧ (0 ≤ n ∧ n < xs.length ∧ xs.length ≤ sizeLine) ∧ xs[n.toNat]? = some c ∧ Q c e2 (s2.set l (.lst (xs.eraseIdx n.toNat)))) : RunX Y (mPopAt ml mi) e s Q :=
  run_bind (run_bind (h.mono fun l _ _ ⟨x0, h0, h⟩ => run_isLst ⟨x0, h0, run_bind (h.mono fun d _ _ ⟨xs, n, c, h1, h2, h3, h4, h5⟩ => Run.i (by
    subst h2
    dsimp only
    rw [h1]
    dsimp only
    rw [if_pos h3, h4]
    exact h5))⟩))
instance {ml : M Nat} {mi : M D} {Q : Cl → Ev → St → Prop} : Step (RunX Y (mPopAt ml mi) e s Q) (RunX Y ml e s fun l e1 s1 => ∃ x0, s1[l]? = some (.lst x0) ∧ RunX Y mi e1 s1 fun d e2 s2 => ∃ xs n c, s2[l]? = some (.lst xs) ∧ d = .int n ∧ (0 ≤ n ∧ n < xs.length ∧ xs.length ≤ sizeLine) ∧ xs[n.toNat]? = some c ∧ Q c e2 (s2.set l (.lst (xs.eraseIdx n.toNat)))) := ⟨run_popAt⟩
theorem run_ext {ml : M Nat} {mc : M Cl} {Q : Fl → Ev → St → Prop} (h : RunX Y ml e s fun l e1 s1 => ∃ x0, s1[l]? = some (.lst x0) ∧ RunX Y mc e1 s1 fun c e2 s2 => ∃ xs d ds, s2[l]? = some (.lst xs) ∧ snap s2 c = some d ∧ itemsD d = some ds ∧ xs.length + ds.length ≤ sizeLine ∧ Q .nx e2 (s2.set l (.lst (xs ++ ds.map Cl.sh)))) : RunX Y (mExt ml mc) e s Q :=
  run_bind (run_bind (h.mono fun l _ _ ⟨x0, h0, h⟩ => run_isLst ⟨x0, h0, run_bind (h.mono fun c _ _ ⟨xs, d, ds, h1, h2, h3, h4, h5⟩ => Run.i (by
    dsimp only
    rw [h1, h2, Option.bind_some, h3]
    dsimp only
    rw [if_pos h4]
    exact h5))⟩))
instance {ml : M Nat} {mc : M Cl} {Q : Fl → Ev → St → Prop} : Step (RunX Y (mExt ml mc) e s Q) (RunX Y ml e s fun l e1 s1 => ∃ x0, s1[l]? = some (.lst x0) ∧ RunX Y mc e1 s1 fun c e2 s2 => ∃ xs d ds, s2[l]? = some (.lst xs) ∧ snap s2 c = some d ∧ itemsD d = some ds ∧ xs.length + ds.length ≤ sizeLine ∧ Q .nx e2 (s2.set l (.lst (xs ++ ds.map Cl.sh)))) := ⟨run_ext⟩
theorem run_setIx {ml : M Nat} {mi : M D} {mc : M Cl} {Q : Fl → Ev → St → Prop} (h : RunX Y mc e s fun c e1 s1 => RunX Y ml e1 s1 fun l e2 s2 => RunX Y mi e2 s2 fun d e3 s3 => ∃ xs n j, s3[l]? = some (.lst xs) ∧ d = .int n ∧ ixN xs.length n = some j ∧ Q .nx e3 (s3.set l (.lst (xs.set j c)))) : RunX Y (mSetIx ml mi mc) e s Q :=
  run_bind (h.mono fun _ _ _ h => run_bind (h.mono fun _ _ _ h => run_bind (h.mono fun _ _ _ ⟨xs, n, j, h1, h2, h3, h4⟩ => Run.i (by
    subst h2
    dsimp only
    rw [h1]
    dsimp only
    rw [h3]
    exact h4))))
instance {ml : M Nat} {mi : M D} {mc : M Cl} {Q : Fl → Ev → St → Prop} : Step (RunX Y (mSetIx ml mi mc) e s Q) (RunX Y mc e s fun c e1 s1 => RunX Y ml e1 s1 fun l e2 s2 => RunX Y mi e2 s2 fun d e3 s3 => ∃ xs n j, s3[l]? = some (.lst xs) ∧ d = .int n ∧ ixN xs.length n = some j ∧ Q .nx e3 (s3.set l (.lst (xs.set j c)))) := ⟨run_setIx⟩
theorem run_ifb {b : Bool} {m1 m2 : M α} {Q : α → Ev → St → Prop} (h1 : b = true → RunX Y m1 e s Q) (h2 : b = false → RunX Y m2 e s Q) : RunX Y (if b = true then m1 else m2) e s Q := by
  cases b with
  | true => exact h1 rfl
  | false => exact h2 rfl
theorem run_andT {t1 t2 : M Bool} {Q : Bool → Ev → St → Prop} (h : RunX Y t1 e s fun b e1 s1 => (b = true → RunX Y t2 e1 s1 Q) ∧ (b = false → Q false e1 s1)) : RunX Y (mAndT t1 t2) e s Q := run_bind (h.mono fun b _ _ h => run_ifb h.1 fun z => run_pure (h.2 z))
instance {t1 t2 : M Bool} {Q : Bool → Ev → St → Prop} : Step (RunX Y (mAndT t1 t2) e s Q) (RunX Y t1 e s fun b e1 s1 => (b = true → RunX Y t2 e1 s1 Q) ∧ (b = false → Q false e1 s1)) := ⟨run_andT⟩
theorem run_orT {t1 t2 : M Bool} {Q : Bool → Ev → St → Prop} (h : RunX Y t1 e s fun b e1 s1 => (b = true → Q true e1 s1) ∧ (b = false → RunX Y t2 e1 s1 Q)) : RunX Y (mOrT t1 t2) e s Q := run_bind (h.mono fun b _ _ h => run_ifb (fun z => run_pure (h.1 z)) h.2)
instance {t1 t2 : M Bool} {Q : Bool → Ev → St → Prop} : Step (RunX Y (mOrT t1 t2) e s Q) (RunX Y t1 e s fun b e1 s1 => (b = true → Q true e1 s1) ∧ (b = false → RunX Y t2 e1 s1 Q)) := ⟨run_orT⟩
theorem run_notT {t : M Bool} {Q : Bool → Ev → St → Prop} (h : RunX Y t e s fun b e1 s1 => Q (!b) e1 s1) : RunX Y (mNotT t) e s Q := run_bind (h.mono fun _ _ _ h => run_pure h)
instance {t : M Bool} {Q : Bool → Ev → St → Prop} : Step (RunX Y (mNotT t) e s Q) (RunX Y t e s fun b e1 s1 => Q (!b) e1 s1) := ⟨run_notT⟩
theorem run_andV {m1 m2 : M D} {Q : D → Ev → St → Prop} (h : RunX Y m1 e s fun d e1 s1 => ∃ b, toB d = some b ∧ (b = true → RunX Y m2 e1 s1 Q) ∧ (b = false → Q (.bool false) e1 s1)) : RunX Y (mAndV m1 m2) e s Q := run_bind (run_test (h.mono fun _ _ _ ⟨b, h1, h2, h3⟩ => ⟨b, h1, run_ifb h2 fun z => run_pure (h3 z)⟩))
instance {m1 m2 : M D} {Q : D → Ev → St → Prop} : Step (RunX Y (mAndV m1 m2) e s Q) (RunX Y m1 e s fun d e1 s1 => ∃ b, toB d = some b ∧ (b = true → RunX Y m2 e1 s1 Q) ∧ (b = false → Q (.bool false) e1 s1)) := ⟨run_andV⟩
theorem run_orV {m1 m2 : M D} {Q : D → Ev → St → Prop} (h : RunX Y m1 e s fun d e1 s1 => ∃ b, toB d = some b ∧ (b = true → Q (.bool true) e1 s1) ∧ (b = false → RunX Y m2 e1 s1 Q)) : RunX Y (mOrV m1 m2) e s Q := run_bind (run_test (h.mono fun _ _ _ ⟨b, h1, h2, h3⟩ => ⟨b, h1, run_ifb (fun z => run_pure (h2 z)) h3⟩))
instance {m1 m2 : M D} {Q : D → Ev → St → Prop} : Step (RunX Y (mOrV m1 m2) e s Q) (RunX Y m1 e s fun d e1 s1 => ∃ b, toB d = some b ∧ (b = true → Q (.bool true) e1 s1) ∧ (b = false → RunX Y m2 e1 s1 Q)) := ⟨run_orV⟩
theorem run_notV {Q : D → Ev → St → Prop} (h : RunX Y m e s fun d e1 s1 => ∃ b, toB d = some b ∧ Q (.bool (!b)) e1 s1) : RunX Y (mNotV m) e s Q := run_bind (run_test (h.mono fun _ _ _ ⟨b, h1, h2⟩ => ⟨b, h1, run_pure h2⟩))
instance {Q : D → Ev → St → Prop} : Step (RunX Y (mNotV m) e s Q) (RunX Y m e s fun d e1 s1 => ∃ b, toB d = some b ∧ Q (.bool (!b)) e1 s1) := ⟨run_notV⟩
theorem run_ifE {t : M Bool} {m1 m2 : M D} {Q : D → Ev → St → Prop} (h : RunX Y t e s fun b e1 s1 => (b = true → RunX Y m1 e1 s1 Q) ∧ (b = false → RunX Y m2 e1 s1 Q)) : RunX Y (mIfE t m1 m2) e s Q := run_bind (h.mono fun b _ _ h => run_ifb h.1 h.2)
instance {t : M Bool} {m1 m2 : M D} {Q : D → Ev → St → Prop} : Step (RunX Y (mIfE t m1 m2) e s Q) (RunX Y t e s fun b e1 s1 => (b = true → RunX Y m1 e1 s1 Q) ∧ (b = false → RunX Y m2 e1 s1 Q)) := ⟨run_ifE⟩
theorem run_neg {Q : D → Ev → St → Prop} (h : RunX Y m e s fun d e1 s1 => ∃ c, dNeg d = some c ∧ Q c e1 s1) : RunX Y (mNeg m) e s Q := run_bind (h.mono fun _ _ _ h => run_opt h)
instance {Q : D → Ev → St → Prop} : Step (RunX Y (mNeg m) e s Q) (RunX Y m e s fun d e1 s1 => ∃ c, dNeg d = some c ∧ Q c e1 s1) := ⟨run_neg⟩
theorem run_nx {Q : Fl → Ev → St → Prop} (h : Q .nx e s) : RunX Y mNx e s Q := run_pure h
instance {Q : Fl → Ev → St → Prop} : Step (RunX Y mNx e s Q) (Q .nx e s) := ⟨run_nx⟩
theorem run_seq {m1 m2 : M Fl} {Q : Fl → Ev → St → Prop} (h : RunX Y m1 e s fun fl e1 s1 => (fl = .nx → RunX Y m2 e1 s1 Q) ∧ (fl ≠ .nx → Q fl e1 s1)) : RunX Y (mSeq m1 m2) e s Q := by
  unfold RunX at *
  unfold mSeq
  cases q : m1 ⟨e, s⟩ with
  | ok fl x =>
    rw [q] at h
    cases fl with
    | nx =>
      have z := h.1 rfl
      exact z
    | rt c => exact h.2 (by simp)
    | bk => exact h.2 (by simp)
    | ct => exact h.2 (by simp)
  | exc y x => rw [q] at h; exact h
  | bad => rw [q] at h; exact h
instance {m1 m2 : M Fl} {Q : Fl → Ev → St → Prop} : Step (RunX Y (mSeq m1 m2) e s Q) (RunX Y m1 e s fun fl e1 s1 => (fl = .nx → RunX Y m2 e1 s1 Q) ∧ (fl ≠ .nx → Q fl e1 s1)) := ⟨run_seq⟩
/-- one statement, what holds behind it, the rest -/
theorem run_seqP {m1 m2 : M Fl} {Q : Fl → Ev → St → Prop} (P : Ev → St → Prop) (h1 : RunX Y m1 e s fun fl e1 s1 => fl = .nx ∧ P e1 s1) (h2 : ∀ e1 s1, P e1 s1 → RunX Y m2 e1 s1 Q) : RunX Y (mSeq m1 m2) e s Q := by
  refine run_seq (h1.mono fun fl e1 s1 h => ?_)
  obtain ⟨rfl, h⟩ := h
  exact ⟨fun _ => h2 e1 s1 h, fun z => absurd rfl z⟩
theorem run_expr {m : M Cl} {Q : Fl → Ev → St → Prop} (h : RunX Y m e s fun _ e1 s1 => Q .nx e1 s1) : RunX Y (mExpr m) e s Q := run_bind (h.mono fun _ _ _ h => run_pure h)
instance {m : M Cl} {Q : Fl → Ev → St → Prop} : Step (RunX Y (mExpr m) e s Q) (RunX Y m e s fun _ e1 s1 => Q .nx e1 s1) := ⟨run_expr⟩
theorem run_ret {m : M Cl} {Q : Fl → Ev → St → Prop} (h : RunX Y m e s fun c e1 s1 => Q (.rt c) e1 s1) : RunX Y (mRet m) e s Q := run_bind (h.mono fun _ _ _ h => run_pure h)
instance {m : M Cl} {Q : Fl → Ev → St → Prop} : Step (RunX Y (mRet m) e s Q) (RunX Y m e s fun c e1 s1 => Q (.rt c) e1 s1) := ⟨run_ret⟩
theorem run_ifS {t : M Bool} {m1 m2 : M Fl} {Q : Fl → Ev → St → Prop} (h : RunX Y t e s fun b e1 s1 => (b = true → RunX Y m1 e1 s1 Q) ∧ (b = false → RunX Y m2 e1 s1 Q)) : RunX Y (mIfS t m1 m2) e s Q := run_bind (h.mono fun b _ _ h => run_ifb h.1 h.2)
instance {t : M Bool} {m1 m2 : M Fl} {Q : Fl → Ev → St → Prop} : Step (RunX Y (mIfS t m1 m2) e s Q) (RunX Y t e s fun b e1 s1 => (b = true → RunX Y m1 e1 s1 Q) ∧ (b = false → RunX Y m2 e1 s1 Q)) := ⟨run_ifS⟩
theorem run_set {i : Nat} {m : M Cl} {Q : Fl → Ev → St → Prop} (h : RunX Y m e s fun c e1 s1 => Q .nx (e1.set i c) s1) : RunX Y (mSet i m) e s Q := run_bind (h.mono fun _ _ _ h => Run.i h)
instance {i : Nat} {m : M Cl} {Q : Fl → Ev → St → Prop} : Step (RunX Y (mSet i m) e s Q) (RunX Y m e s fun c e1 s1 => Q .nx (e1.set i c) s1) := ⟨run_set⟩
theorem run_asg {g : MG Cl} {m : M Cl} {Q : Fl → Ev → St → Prop} (h : RunX Y m e s fun c e1 s1 => ∃ e', g c e1 = some e' ∧ Q .nx e' s1) : RunX Y (mAsg g m) e s Q :=
  run_bind (h.mono fun _ _ _ ⟨e', h1, h2⟩ => Run.i (by dsimp only; rw [h1]; exact h2))
instance {g : MG Cl} {m : M Cl} {Q : Fl → Ev → St → Prop} : Step (RunX Y (mAsg g m) e s Q) (RunX Y m e s fun c e1 s1 => ∃ e', g c e1 = some e' ∧ Q .nx e' s1) := ⟨run_asg⟩
theorem run_iter {Q : List D → Ev → St → Prop} (h : RunX Y m e s fun d e1 s1 => ∃ ds, dItems d = some ds ∧ Q ds e1 s1) : RunX Y (mIter m) e s Q := run_bind (h.mono fun _ _ _ h => run_opt h)
instance {Q : List D → Ev → St → Prop} : Step (RunX Y (mIter m) e s Q) (RunX Y m e s fun d e1 s1 => ∃ ds, dItems d = some ds ∧ Q ds e1 s1) := ⟨run_iter⟩
theorem run_rng1 {Q : List D → Ev → St → Prop} (h : RunX Y m e s fun d e1 s1 => ∃ ds, bRng1 d = some ds ∧ Q ds e1 s1) : RunX Y (mRng1 m) e s Q := run_bind (h.mono fun _ _ _ h => run_opt h)
instance {Q : List D → Ev → St → Prop} : Step (RunX Y (mRng1 m) e s Q) (RunX Y m e s fun d e1 s1 => ∃ ds, bRng1 d = some ds ∧ Q ds e1 s1) := ⟨run_rng1⟩
theorem run_rng2 {ma mb : M D} {Q : List D → Ev → St → Prop} (h : RunX Y ma e s fun d e1 s1 => RunX Y mb e1 s1 fun c e2 s2 => ∃ ds, bRng2 d c = some ds ∧ Q ds e2 s2) : RunX Y (mRng2 ma mb) e s Q := run_bind (h.mono fun _ _ _ h => run_bind (h.mono fun _ _ _ h => run_opt h))
instance {ma mb : M D} {Q : List D → Ev → St → Prop} : Step (RunX Y (mRng2 ma mb) e s Q) (RunX Y ma e s fun d e1 s1 => RunX Y mb e1 s1 fun c e2 s2 => ∃ ds, bRng2 d c = some ds ∧ Q ds e2 s2) := ⟨run_rng2⟩
theorem run_for {mi : M (List D)} {g : MG Cl} {mb : M Fl} {Q : Fl → Ev → St → Prop} (h : RunX Y mi e s fun ds e1 s1 => RunX Y (forL g mb ds) e1 s1 Q) : RunX Y (mFor mi g mb) e s Q := run_bind h
instance {mi : M (List D)} {g : MG Cl} {mb : M Fl} {Q : Fl → Ev → St → Prop} : Step (RunX Y (mFor mi g mb) e s Q) (RunX Y mi e s fun ds e1 s1 => RunX Y (forL g mb ds) e1 s1 Q) := ⟨run_for⟩
theorem run_forL {g : MG Cl} {mb : M Fl} {Q : Fl → Ev → St → Prop} (ds : List D) (I : Nat → Ev → St → Prop) (h0 : I 0 e s)
    (hs : ∀ (i : Nat) (d : D) (e : Ev) (s : St), ds[i]? = some d → I i e s → ∃ e1, g (.sh d) e = some e1 ∧ RunX Y mb e1 s fun fl e2 s2 => (fl = .nx ∨ fl = .ct → I (i + 1) e2 s2) ∧ (fl = .bk → Q .nx e2 s2) ∧ (∀ c, fl = .rt c → Q (.rt c) e2 s2))
    (hd : ∀ e s, I ds.length e s → Q .nx e s) : RunX Y (forL g mb ds) e s Q := by
  suffices H : ∀ (k i : Nat) (e : Ev) (s : St), i + k = ds.length → I i e s → RunX Y (forL g mb (ds.drop i)) e s Q by
    have := H ds.length 0 e s (by omega) h0
    rwa [List.drop_zero] at this
  intro k
  induction k with
  | zero =>
    intro i e s hi hI
    have e' : i = ds.length := by omega
    subst e'
    rw [List.drop_length]
    exact Run.i (hd e s hI)
  | succ k ih =>
    intro i e s hi hI
    have hlt : i < ds.length := by omega
    obtain ⟨e1, h1, h2⟩ := hs i ds[i] e s (List.getElem?_eq_getElem hlt) hI
    rw [List.drop_eq_getElem_cons hlt]
    unfold RunX forL
    dsimp only
    rw [h1]
    unfold RunX at h2
    dsimp only
    cases q : mb ⟨e1, s⟩ with
    | ok fl x =>
      rw [q] at h2
      obtain ⟨a1, a2, a3⟩ := h2
      cases fl with
      | nx => have z := ih (i + 1) x.e x.s (by omega) (a1 (.inl rfl)); unfold RunX at z; exact z
      | ct => have z := ih (i + 1) x.e x.s (by omega) (a1 (.inr rfl)); unfold RunX at z; exact z
      | bk => exact a2 rfl
      | rt c => exact a3 c rfl
    | exc y x => rw [q] at h2; exact h2
    | bad => rw [q] at h2; exact h2
theorem run_forL_nil {g : MG Cl} {mb : M Fl} {Q : Fl → Ev → St → Prop} (h : Q .nx e s) : RunX Y (forL g mb []) e s Q := Run.i h
instance {g : MG Cl} {mb : M Fl} {Q : Fl → Ev → St → Prop} : Step (RunX Y (forL g mb []) e s Q) (Q .nx e s) := ⟨run_forL_nil⟩
theorem run_comp {mi : M (List D)} {vs : List Nat} {g : MG Cl} {mt : M Bool} {me : M D} {Q : List Cl → Ev → St → Prop}
    (h : RunX Y mi e s fun ds e1 s1 => ds.length ≤ sizeLine ∧ RunX NoY (compL vs g mt me ds) (wipeE e1 vs) s1 fun ys e2 s2 => Q (ys.map Cl.sh) (backE e1 e2 vs) s2) : RunX Y (mComp mi vs g mt me) e s Q :=
  run_bind (h.mono fun ds e1 s1 ⟨h1, h2⟩ => by
    unfold RunX compE
    dsimp only
    rw [if_pos h1]
    unfold RunX at h2
    cases q : compL vs g mt me ds ⟨wipeE e1 vs, s1⟩ with
    | ok ys x => rw [q] at h2; exact h2
    | exc y x => rw [q] at h2; exact h2
    | bad => rw [q] at h2; exact h2)
instance {mi : M (List D)} {vs : List Nat} {g : MG Cl} {mt : M Bool} {me : M D} {Q : List Cl → Ev → St → Prop} : Step (RunX Y (mComp mi vs g mt me) e s Q) (RunX Y mi e s fun ds e1 s1 => ds.length ≤ sizeLine ∧ RunX NoY (compL vs g mt me ds) (wipeE e1 vs) s1 fun ys e2 s2 => Q (ys.map Cl.sh) (backE e1 e2 vs) s2) := ⟨run_comp⟩
theorem run_compL {vs : List Nat} {g : MG Cl} {mt : M Bool} {me : M D} (ds : List D) (J : Nat → List D → Ev → St → Prop) {Q : List D → Ev → St → Prop} (h0 : J 0 [] e s)
    (hs : ∀ (i : Nat) (d : D) (ys : List D) (e : Ev) (s : St), ds[i]? = some d → J i ys e s → ∃ e1, g (.sh d) e = some e1 ∧ RunX Y mt e1 s fun b e2 s2 => (b = true → RunX Y me e2 s2 fun y e3 s3 => J (i + 1) (ys ++ [y]) (wipeE e3 vs) s3) ∧ (b = false → J (i + 1) ys (wipeE e2 vs) s2))
    (hd : ∀ ys e s, J ds.length ys e s → Q ys e s) : RunX Y (compL vs g mt me ds) e s Q := by
  suffices H : ∀ (k i : Nat) (ys : List D) (e : Ev) (s : St), i + k = ds.length → J i ys e s → RunX Y (compL vs g mt me (ds.drop i)) e s fun zs e2 s2 => Q (ys ++ zs) e2 s2 by
    have := H ds.length 0 [] e s (by omega) h0
    rw [List.drop_zero] at this
    exact this.mono fun _ _ _ h => h
  intro k
  induction k with
  | zero =>
    intro i ys e s hi hJ
    have e' : i = ds.length := by omega
    subst e'
    rw [List.drop_length]
    refine Run.i ?_
    show Q (ys ++ []) e s
    rw [List.append_nil]
    exact hd ys e s hJ
  | succ k ih =>
    intro i ys e s hi hJ
    have hlt : i < ds.length := by omega
    obtain ⟨e1, h1, h2⟩ := hs i ds[i] ys e s (List.getElem?_eq_getElem hlt) hJ
    rw [List.drop_eq_getElem_cons hlt]
    have z : RunX Y (mBind mt (fun b => if b then mBind me (fun y => mBind (mWipe vs) fun _ => mBind (compL vs g mt me (ds.drop (i + 1))) fun ys => mPure (y :: ys)) else mBind (mWipe vs) fun _ => compL vs g mt me (ds.drop (i + 1)))) e1 s fun zs e2 s2 => Q (ys ++ zs) e2 s2 := by
      refine run_bind (h2.mono fun b e2 s2 h => run_ifb (fun hb => ?_) fun hb => ?_)
      · refine run_bind ((h.1 hb).mono fun y e3 s3 hJ' => run_bind (Run.i ?_))
        show RunX Y (mBind (compL vs g mt me (ds.drop (i + 1))) fun ys => mPure (y :: ys)) (wipeE e3 vs) s3 _
        refine run_bind ((ih (i + 1) _ _ _ (by omega) hJ').mono fun zs e4 s4 q => Run.i ?_)
        show Q (ys ++ (y :: zs)) e4 s4
        rw [List.append_assoc] at q
        exact q
      · refine run_bind (Run.i ?_)
        show RunX Y (compL vs g mt me (ds.drop (i + 1))) (wipeE e2 vs) s2 _
        exact ih (i + 1) _ _ _ (by omega) (h.2 hb)
    unfold RunX at z ⊢
    unfold compL
    dsimp only
    rw [h1]
    exact z
theorem run_yes {Q : Bool → Ev → St → Prop} (h : Q true e s) : RunX Y mYes e s Q := run_pure h
instance {Q : Bool → Ev → St → Prop} : Step (RunX Y mYes e s Q) (Q true e s) := ⟨run_yes⟩
theorem frun_fn {n N : Nat} {mb : M Fl} {as : Ev} {Q : Cl → St → Prop} (hn : as.length = n) (h : RunX (fun y _ s' => YF y s') mb (as ++ List.replicate (N - n) .no) s fun fl e1 s1 => (fl = .nx → Q (.sh .none) (trim s.length (.sh .none) s1)) ∧ (∀ c, fl = .rt c → Q c (trim s.length c s1)) ∧ fl ≠ .bk ∧ fl ≠ .ct) : FRunX YF (fnF n N mb) as s Q := by
  unfold FRunX fnF
  rw [if_pos hn]
  unfold RunX at h
  cases q : mb ⟨as ++ List.replicate (N - n) .no, s⟩ with
  | ok fl x =>
    rw [q] at h
    obtain ⟨h1, h2, h3, h4⟩ := h
    cases fl with
    | nx => exact h1 rfl
    | rt c => exact h2 c rfl
    | bk => exact (h3 rfl).elim
    | ct => exact (h4 rfl).elim
  | exc y x => rw [q] at h; exact h
  | bad => rw [q] at h; exact h
end
end Ds
namespace Ds
open PySem PySem.Spec PyProof.Rows L2 Dn
section
variable {A B : Prop} {C : Cl → Prop} {c : Cl}
theorem seq_nx (h : A) : (Fl.nx = .nx → A) ∧ (Fl.nx ≠ .nx → B) := ⟨fun _ => h, fun z => absurd rfl z⟩
instance  : Step ((Fl.nx = .nx → A) ∧ (Fl.nx ≠ .nx → B)) (A) := ⟨seq_nx⟩
theorem seq_rt (h : B) : (Fl.rt c = .nx → A) ∧ (Fl.rt c ≠ .nx → B) := ⟨fun z => (nomatch z), fun _ => h⟩
instance  : Step ((Fl.rt c = .nx → A) ∧ (Fl.rt c ≠ .nx → B)) (B) := ⟨seq_rt⟩
theorem fin_rt (h : C c) : (Fl.rt c = .nx → A) ∧ (∀ c', Fl.rt c = .rt c' → C c') ∧ Fl.rt c ≠ .bk ∧ Fl.rt c ≠ .ct := ⟨fun z => (nomatch z), fun s' z => by cases z; exact h, by simp, by simp⟩
instance  : Step ((Fl.rt c = .nx → A) ∧ (∀ c', Fl.rt c = .rt c' → C c') ∧ Fl.rt c ≠ .bk ∧ Fl.rt c ≠ .ct) (C c) := ⟨fin_rt⟩
theorem fin_nx (h : A) : (Fl.nx = .nx → A) ∧ (∀ c', Fl.nx = .rt c' → C c') ∧ Fl.nx ≠ .bk ∧ Fl.nx ≠ .ct := ⟨fun _ => h, fun s' z => (nomatch z), by simp, by simp⟩
instance  : Step ((Fl.nx = .nx → A) ∧ (∀ c', Fl.nx = .rt c' → C c') ∧ Fl.nx ≠ .bk ∧ Fl.nx ≠ .ct) (A) := ⟨fin_nx⟩
theorem turn_nx (h : A) : (Fl.nx = .nx ∨ Fl.nx = .ct → A) ∧ (Fl.nx = .bk → B) ∧ (∀ c', Fl.nx = .rt c' → C c') := ⟨fun _ => h, fun z => (nomatch z), fun s' z => (nomatch z)⟩
instance  : Step ((Fl.nx = .nx ∨ Fl.nx = .ct → A) ∧ (Fl.nx = .bk → B) ∧ (∀ c', Fl.nx = .rt c' → C c')) (A) := ⟨turn_nx⟩
theorem turn_ct (h : A) : (Fl.ct = .nx ∨ Fl.ct = .ct → A) ∧ (Fl.ct = .bk → B) ∧ (∀ c', Fl.ct = .rt c' → C c') := ⟨fun _ => h, fun z => (nomatch z), fun s' z => (nomatch z)⟩
instance  : Step ((Fl.ct = .nx ∨ Fl.ct = .ct → A) ∧ (Fl.ct = .bk → B) ∧ (∀ c', Fl.ct = .rt c' → C c')) (A) := ⟨turn_ct⟩
theorem turn_bk (h : B) : (Fl.bk = .nx ∨ Fl.bk = .ct → A) ∧ (Fl.bk = .bk → B) ∧ (∀ c', Fl.bk = .rt c' → C c') := ⟨fun z => by simp at z, fun _ => h, fun s' z => (nomatch z)⟩
instance  : Step ((Fl.bk = .nx ∨ Fl.bk = .ct → A) ∧ (Fl.bk = .bk → B) ∧ (∀ c', Fl.bk = .rt c' → C c')) (B) := ⟨turn_bk⟩
theorem turn_rt (h : C c) : (Fl.rt c = .nx ∨ Fl.rt c = .ct → A) ∧ (Fl.rt c = .bk → B) ∧ (∀ c', Fl.rt c = .rt c' → C c') := ⟨fun z => by simp at z, fun z => (nomatch z), fun s' z => by cases z; exact h⟩
instance  : Step ((Fl.rt c = .nx ∨ Fl.rt c = .ct → A) ∧ (Fl.rt c = .bk → B) ∧ (∀ c', Fl.rt c = .rt c' → C c')) (C c) := ⟨turn_rt⟩
end
theorem two_Tb {A B : Prop} {b : Bool} (hb : b = true) (h : A) : (b = true → A) ∧ (b = false → B) := ⟨fun _ => h, fun z => absurd (hb.symm.trans z) (by decide)⟩
theorem two_Fb {A B : Prop} {b : Bool} (hb : b = false) (h : B) : (b = true → A) ∧ (b = false → B) := ⟨fun z => absurd (hb.symm.trans z) (by decide), fun _ => h⟩
theorem trim_len {n : Nat} {c : Cl} {s : St} (h : s.length = n) : trim n c s = s := by
  unfold trim
  split
  · rw [List.take_of_length_le (by omega)]
  · rfl
theorem trim_get {n : Nat} {c : Cl} {s : St} {j : Nat} (h : j < n) : (trim n c s)[j]? = s[j]? := by
  unfold trim
  split
  · rw [List.getElem?_take_of_lt h]
  · rfl
theorem trim_ge {n : Nat} {c : Cl} {s : St} (h : n ≤ s.length) : n ≤ (trim n c s).length := trim_le h
theorem shL_map : ∀ ds : List D, shL (ds.map Cl.sh) = some ds
  | [] => rfl
  | d :: ds => by rw [List.map_cons]; unfold shL; rw [shL_map ds]; rfl
theorem snap_list {s : St} {l : Nat} {ds : List D} (h : s[l]? = some (.lst (ds.map Cl.sh))) : snap s (.lo l) = some (.list ds) := by
  show (match s[l]? with
    | some (.lst xs) => (shL xs).map PyData.list
    | _ => none) = _
  rw [h]
  dsimp only
  rw [shL_map]
  rfl
theorem set_same {s : St} {l : Nat} {o : Ob} (h : l < s.length) : (s.set l o)[l]? = some o := List.getElem?_set_self h
theorem set_other {s : St} {l j : Nat} {o : Ob} (h : j ≠ l) : (s.set l o)[j]? = s[j]? := List.getElem?_set_ne (Ne.symm h)
theorem app_old {s : St} {j : Nat} {o : Ob} (h : j < s.length) : (s ++ [o])[j]? = s[j]? := List.getElem?_append_left h
theorem app_new {s : St} {o : Ob} : (s ++ [o])[s.length]? = some o := by
  rw [List.getElem?_append_right (Nat.le_refl _), Nat.sub_self]
  rfl
theorem lt_of_at {s : St} {l : Nat} {o : Ob} (h : s[l]? = some o) : l < s.length := (List.getElem?_eq_some_iff.mp h).1
/-- x[i], a list of the store with data at i -/
theorem ixC_lo {s : St} {l : Nat} {xs : List Cl} {i : Int} {c : Cl} (h : s[l]? = some (.lst xs)) (h2 : atI xs i = some c) : ixC s (.lo l) (.int i) = some c := by
  show (match s[l]?, (PyData.int i) with
    | some (.lst xs), .int i => atI xs i
    | _, _ => none) = _
  rw [h]
  exact h2
end Ds
namespace Ds
open PySem PySem.Spec PyProof.Rows L2 Dn
section
variable {α β : Type} {e : Ev} {s : St} {m : M D} {Y : Exn → Ev → St → Prop}
theorem run_enum {Q : List D → Ev → St → Prop} (h : RunX Y m e s fun d e1 s1 => ∃ ds, dItems d = some ds ∧ Q (enumD ds) e1 s1) : RunX Y (mEnum m) e s Q :=
  run_bind (h.mono fun _ _ _ ⟨ds, a, b⟩ => run_opt ⟨_, by rw [a]; rfl, b⟩)
instance {Q : List D → Ev → St → Prop} : Step (RunX Y (mEnum m) e s Q) (RunX Y m e s fun d e1 s1 => ∃ ds, dItems d = some ds ∧ Q (enumD ds) e1 s1) := ⟨run_enum⟩
theorem run_zip {ma mb : M D} {Q : List D → Ev → St → Prop} (h : RunX Y ma e s fun d e1 s1 => RunX Y mb e1 s1 fun c e2 s2 => ∃ ds es, dItems d = some ds ∧ dItems c = some es ∧ Q (zipD ds es) e2 s2) : RunX Y (mZip ma mb) e s Q :=
  run_bind (h.mono fun _ _ _ h => run_bind (h.mono fun _ _ _ ⟨ds, es, a, b, c⟩ => run_opt ⟨_, by rw [a, b]; rfl, c⟩))
instance {ma mb : M D} {Q : List D → Ev → St → Prop} : Step (RunX Y (mZip ma mb) e s Q) (RunX Y ma e s fun d e1 s1 => RunX Y mb e1 s1 fun c e2 s2 => ∃ ds es, dItems d = some ds ∧ dItems c = some es ∧ Q (zipD ds es) e2 s2) := ⟨run_zip⟩
theorem run_rng3 {ma mb mc : M D} {Q : List D → Ev → St → Prop} (h : RunX Y ma e s fun d e1 s1 => RunX Y mb e1 s1 fun c e2 s2 => RunX Y mc e2 s2 fun k e3 s3 => ∃ ds, bRng3 d c k = some ds ∧ Q ds e3 s3) : RunX Y (mRng3 ma mb mc) e s Q :=
  run_bind (h.mono fun _ _ _ h => run_bind (h.mono fun _ _ _ h => run_bind (h.mono fun _ _ _ h => run_opt h)))
instance {ma mb mc : M D} {Q : List D → Ev → St → Prop} : Step (RunX Y (mRng3 ma mb mc) e s Q) (RunX Y ma e s fun d e1 s1 => RunX Y mb e1 s1 fun c e2 s2 => RunX Y mc e2 s2 fun k e3 s3 => ∃ ds, bRng3 d c k = some ds ∧ Q ds e3 s3) := ⟨run_rng3⟩
theorem run_kget {kvs : List (Str × D)} {Q : D → Ev → St → Prop} (h : RunX Y m e s fun d e1 s1 => ∃ z r, toS d = some z ∧ lookS kvs z = some r ∧ Q r e1 s1) : RunX Y (mKGet kvs m) e s Q :=
  run_bind (h.mono fun _ _ _ ⟨z, r, a, b, c⟩ => run_opt ⟨r, by rw [a]; exact b, c⟩)
instance {kvs : List (Str × D)} {Q : D → Ev → St → Prop} : Step (RunX Y (mKGet kvs m) e s Q) (RunX Y m e s fun d e1 s1 => ∃ z r, toS d = some z ∧ lookS kvs z = some r ∧ Q r e1 s1) := ⟨run_kget⟩
theorem run_sortD {ml : M Nat} {Q : D → Ev → St → Prop} (h : RunX Y ml e s fun l e1 s1 => ∃ kvs ks, s1[l]? = some (.dk kvs) ∧ keysS kvs = some ks ∧ ks.length < 64 ∧ Q (.list ((sortT ks).map PyData.str)) e1 s1) : RunX Y (mSortD ml) e s Q :=
  run_bind (h.mono fun l _ _ ⟨kvs, ks, h1, h2, h3, h4⟩ => Run.i (by
    dsimp only
    rw [h1]
    dsimp only
    rw [h2]
    dsimp only
    rw [if_pos h3]
    exact h4))
instance {ml : M Nat} {Q : D → Ev → St → Prop} : Step (RunX Y (mSortD ml) e s Q) (RunX Y ml e s fun l e1 s1 => ∃ kvs ks, s1[l]? = some (.dk kvs) ∧ keysS kvs = some ks ∧ ks.length < 64 ∧ Q (.list ((sortT ks).map PyData.str)) e1 s1) := ⟨run_sortD⟩
theorem run_dget2 {ml : M Nat} {mk : M D} {mc : M Cl} {Q : Cl → Ev → St → Prop} (h : RunX Y ml e s fun l e1 s1 => ∃ k0, s1[l]? = some (.dk k0) ∧ RunX Y mk e1 s1 fun d e2 s2 => RunX Y mc e2 s2 fun z e3 s3 => ∃ kvs k, s3[l]? = some (.dk kvs) ∧ toK d = some k ∧ Q ((valC kvs k).getD z) e3 s3) : RunX Y (mDGet2 ml mk mc) e s Q :=
  run_bind (h.mono fun l _ _ ⟨k0, h0, h⟩ => run_bind (run_isDk ⟨k0, h0, run_bind (h.mono fun d _ _ h => run_bind (h.mono fun z _ _ ⟨kvs, k, h1, h2, h3⟩ => Run.i (by
    dsimp only
    rw [h1, h2]
    exact h3)))⟩))
instance {ml : M Nat} {mk : M D} {mc : M Cl} {Q : Cl → Ev → St → Prop} : Step (RunX Y (mDGet2 ml mk mc) e s Q) (RunX Y ml e s fun l e1 s1 => ∃ k0, s1[l]? = some (.dk k0) ∧ RunX Y mk e1 s1 fun d e2 s2 => RunX Y mc e2 s2 fun z e3 s3 => ∃ kvs k, s3[l]? = some (.dk kvs) ∧ toK d = some k ∧ Q ((valC kvs k).getD z) e3 s3) := ⟨run_dget2⟩
/-- while: n turns at most are left -/
theorem run_while {t : M Bool} {mb : M Fl} {k : Nat} {Q : Fl → Ev → St → Prop} (I : Nat → Ev → St → Prop) (n0 : Nat) (hk : n0 < k) (h0 : I n0 e s)
    (hs : ∀ n e s, I n e s → RunX Y t e s fun b e1 s1 => (b = true → RunX Y mb e1 s1 fun fl e2 s2 => (fl = .nx ∨ fl = .ct → ∃ n', n' < n ∧ I n' e2 s2) ∧ (fl = .bk → Q .nx e2 s2) ∧ (∀ c, fl = .rt c → Q (.rt c) e2 s2)) ∧ (b = false → Q .nx e1 s1)) :
    RunX Y (mWhile t mb k) e s Q := by
  induction k generalizing n0 e s with
  | zero => omega
  | succ k ih =>
    have h := hs n0 e s h0
    unfold RunX at h ⊢
    unfold mWhile
    cases q : t ⟨e, s⟩ with
    | bad => rw [q] at h; exact h
    | exc x δ => rw [q] at h; exact h
    | ok b δ =>
      rw [q] at h
      obtain ⟨h1, h2⟩ := h
      cases b with
      | false => exact h2 rfl
      | true =>
        have h3 := h1 rfl
        unfold RunX at h3
        have e1 : (⟨δ.e, δ.s⟩ : Sx) = δ := rfl
        rw [e1] at h3
        dsimp only
        cases z : mb δ with
        | bad => rw [z] at h3; exact h3
        | exc x δ' => rw [z] at h3; exact h3
        | ok fl δ' =>
          rw [z] at h3
          obtain ⟨a1, a2, a3⟩ := h3
          have go : ∀ {n' : Nat}, n' < n0 → I n' δ'.e δ'.s → RunX Y (mWhile t mb k) δ'.e δ'.s Q := fun hl hi => ih _ (by omega) hi
          cases fl with
          | nx =>
            obtain ⟨n', hl, hi⟩ := a1 (.inl rfl)
            have := go hl hi
            unfold RunX at this
            exact this
          | ct =>
            obtain ⟨n', hl, hi⟩ := a1 (.inr rfl)
            have := go hl hi
            unfold RunX at this
            exact this
          | bk => exact a2 rfl
          | rt c => exact a3 c rfl
/-- a comprehension told by functions; I: what stays true of the store -/
theorem run_compF {vs : List Nat} {g : MG Cl} {mt : M Bool} {me : M D} {Q : List D → Ev → St → Prop} (ds : List D) (p : D → Bool) (f : D → D) (I : St → Prop) (h0 : I s)
    (hs : ∀ d ∈ ds, ∀ s, I s → ∃ e1, g (.sh d) e = some e1 ∧ RunX Y mt e1 s fun b e2 s2 => b = p d ∧ (b = true → RunX Y me e2 s2 fun y e3 s3 => y = f d ∧ wipeE e3 vs = e ∧ I s3) ∧ (b = false → wipeE e2 vs = e ∧ I s2))
    (fin : ∀ s, I s → Q ((ds.filter p).map f) e s) : RunX Y (compL vs g mt me ds) e s Q := by
  refine run_compL ds (fun i ys e' s' => e' = e ∧ I s' ∧ ys = ((ds.take i).filter p).map f) ⟨rfl, h0, by simp⟩ (fun i d ys e' s' hd ⟨he, hI, hy⟩ => ?_) fun ys e' s' ⟨he, hI, hy⟩ => ?_
  · subst he; subst hy
    obtain ⟨e1, h1, h2⟩ := hs d (List.mem_of_getElem? hd) s' hI
    refine ⟨e1, h1, h2.mono fun b e2 s2 ⟨hb, ht, hf⟩ => ⟨fun hb' => (ht hb').mono fun y e3 s3 ⟨a, b', c⟩ => ⟨b', c, ?_⟩, fun hb' => ?_⟩⟩
    · rw [filter_take_succ p ds i d hd, ← hb, hb', a]
      simp
    · obtain ⟨a, b'⟩ := hf hb'
      refine ⟨a, b', ?_⟩
      rw [filter_take_succ p ds i d hd, ← hb, hb']
      simp
  · subst he; subst hy
    rw [List.take_length]
    exact fin s' hI
end
theorem canAll : ∀ {ds : List D}, (∀ d ∈ ds, d.canLay0 = true) → PyData.canLayAll0 ds = true
  | [], _ => rfl
  | d :: ds, h => by
    rw [PyData.canLayAll0, h d List.mem_cons_self, canAll fun x hx => h x (List.mem_cons_of_mem _ hx)]
    rfl
theorem depAll {n : Nat} : ∀ {ds : List D}, (∀ d ∈ ds, d.depth ≤ n) → PyData.depthAll ds ≤ n
  | [], _ => Nat.zero_le _
  | d :: ds, h => by
    rw [PyData.depthAll]
    exact Nat.max_le.mpr ⟨h d List.mem_cons_self, depAll fun x hx => h x (List.mem_cons_of_mem _ hx)⟩
/-- data that == takes, so deep -/
def Sh (n : Nat) (d : D) : Prop := d.canLay0 = true ∧ d.depth ≤ n
theorem Sh.mono {n m : Nat} {d : D} (h : Sh n d) (k : n ≤ m) : Sh m d := ⟨h.1, Nat.le_trans h.2 k⟩
theorem Sh.tup {n : Nat} {ds : List D} (h : ∀ d ∈ ds, Sh n d) : Sh (n + 1) (.tuple ds) := ⟨canAll fun d hd => (h d hd).1, by rw [PyData.depth]; exact Nat.succ_le_succ (depAll fun d hd => (h d hd).2)⟩
theorem Sh.lst {n : Nat} {ds : List D} (h : ∀ d ∈ ds, Sh n d) : Sh (n + 1) (.list ds) := ⟨canAll fun d hd => (h d hd).1, by rw [PyData.depth]; exact Nat.succ_le_succ (depAll fun d hd => (h d hd).2)⟩
theorem Sh.str {n k : Nat} {x : Str} (h : Ok n x) : Sh k (.str x) := ⟨h.strOk, Nat.zero_le _⟩
theorem Sh.int {k : Nat} {i : Int} : Sh k (.int i) := ⟨rfl, Nat.zero_le _⟩
theorem Sh.strs {n k : Nat} {xs : List Str} (h : ∀ x ∈ xs, Ok n x) : Sh (k + 1) (.tuple (xs.map PyData.str)) := Sh.tup fun d hd => by
  obtain ⟨x, hx, rfl⟩ := List.mem_map.mp hd
  exact Sh.str (h x hx)
theorem Sh.ok {n : Nat} {d : D} (h : Sh n d) (k : n ≤ 64 := by decide) : SeqAt.shaped d = true := by
  unfold SeqAt.shaped
  rw [h.1, decide_eq_true (Nat.le_trans h.2 k)]
  rfl
theorem trim_lo {n l : Nat} {s : St} (h : n ≤ l) : trim n (.lo l) s = s := by
  unfold trim
  rw [if_neg]
  intro z
  have : Cl.under n (.lo l) = true := by
    have := (Bool.and_eq_true _ _ ▸ z : _ ∧ _).1
    exact this
  simp [Cl.under] at this
  omega
/-- nothing of the old changes -/
def Fz (s s' : St) : Prop := s.length ≤ s'.length ∧ ∀ j, j < s.length → s'[j]? = s[j]?
theorem Fz.refl (s : St) : Fz s s := ⟨Nat.le_refl _, fun _ _ => rfl⟩
theorem Fz.trans {s s1 s2 : St} (h : Fz s s1) (k : Fz s1 s2) : Fz s s2 := ⟨Nat.le_trans h.1 k.1, fun j hj => (k.2 j (Nat.lt_of_lt_of_le hj h.1)).trans (h.2 j hj)⟩
theorem Fz.trim {c : Cl} {s s' : St} (h : Fz s s') : Fz s (trim s.length c s') := ⟨trim_ge h.1, fun j hj => (trim_get hj).trans (h.2 j hj)⟩
theorem Fz.app {o : Ob} {s : St} : Fz s (s ++ [o]) := ⟨by simp, fun j hj => app_old hj⟩
theorem Fz.put {l : Nat} {o : Ob} {s0 s : St} (h : Fz s0 s) (hl : s0.length ≤ l) : Fz s0 (s.set l o) := ⟨by simpa using h.1, fun j hj => (set_other (by omega)).trans (h.2 j hj)⟩
theorem Fz.at_ {l : Nat} {o : Ob} {s s' : St} (h : Fz s s') (k : s[l]? = some o) : s'[l]? = some o := (h.2 l (lt_of_at k)).trans k
theorem drop_at {ds : List D} {i : Nat} {d : D} (h : ds[i]? = some d) : ds.drop i = d :: ds.drop (i + 1) := by
  have hl := (List.getElem?_eq_some_iff.mp h).1
  rw [List.drop_eq_getElem_cons hl]
  rw [List.getElem?_eq_getElem hl] at h
  rw [Option.some.inj h]
theorem run_forR {Y : Exn → Ev → St → Prop} {e : Ev} {s : St} {g : MG Cl} {mb : M Fl} {Q : Fl → Ev → St → Prop} (ds : List D) (I : List D → Ev → St → Prop) (h0 : I ds e s)
    (hs : ∀ (d : D) (r : List D) (e : Ev) (s : St), I (d :: r) e s → ∃ e1, g (.sh d) e = some e1 ∧ RunX Y mb e1 s fun fl e2 s2 => (fl = .nx ∨ fl = .ct → I r e2 s2) ∧ (fl = .bk → Q .nx e2 s2) ∧ (∀ c, fl = .rt c → Q (.rt c) e2 s2))
    (hd : ∀ e s, I [] e s → Q .nx e s) : RunX Y (forL g mb ds) e s Q :=
  run_forL ds (fun i e s => I (ds.drop i) e s) (by rw [List.drop_zero]; exact h0) (fun i d e s h hI => hs d _ e s (by rw [drop_at h] at hI; exact hI)) fun e s hI => hd e s (by rw [List.drop_length] at hI; exact hI)
theorem run_compR {Y : Exn → Ev → St → Prop} {e : Ev} {s : St} {vs : List Nat} {g : MG Cl} {mt : M Bool} {me : M D} (ds : List D) (J : List D → List D → Ev → St → Prop) {Q : List D → Ev → St → Prop} (h0 : J ds [] e s)
    (hs : ∀ (d : D) (r ys : List D) (e : Ev) (s : St), J (d :: r) ys e s → ∃ e1, g (.sh d) e = some e1 ∧ RunX Y mt e1 s fun b e2 s2 => (b = true → RunX Y me e2 s2 fun y e3 s3 => J r (ys ++ [y]) (wipeE e3 vs) s3) ∧ (b = false → J r ys (wipeE e2 vs) s2))
    (hd : ∀ ys e s, J [] ys e s → Q ys e s) : RunX Y (compL vs g mt me ds) e s Q :=
  run_compL ds (fun i ys e s => J (ds.drop i) ys e s) (by rw [List.drop_zero]; exact h0) (fun i d ys e s h hI => hs d _ ys e s (by rw [drop_at h] at hI; exact hI)) fun ys e s hI => hd ys e s (by rw [List.drop_length] at hI; exact hI)
end Ds
namespace Ds
open PySem PySem.Spec PyProof.Rows L2 Dn
section
variable {α β : Type} {e : Ev} {s : St} {m : M D} {Y : Exn → Ev → St → Prop}
theorem run_tget {ml : M Nat} {mk : M D} {Q : Cl → Ev → St → Prop} (h : RunX Y ml e s fun l e1 s1 => RunX Y mk e1 s1 fun d e2 s2 => ∃ kvs k c, tkAt s2 l = some kvs ∧ toTK d = some k ∧ valC kvs k = some c ∧ Q c e2 s2) : RunX Y (mTGet ml mk) e s Q :=
  run_bind (h.mono fun l _ _ h => run_bind (h.mono fun d _ _ ⟨kvs, k, c, h1, h2, h3, h4⟩ => Run.i (by
    dsimp only
    rw [h1, h2]
    dsimp only
    rw [h3]
    exact h4)))
instance {ml : M Nat} {mk : M D} {Q : Cl → Ev → St → Prop} : Step (RunX Y (mTGet ml mk) e s Q) (RunX Y ml e s fun l e1 s1 => RunX Y mk e1 s1 fun d e2 s2 => ∃ kvs k c, tkAt s2 l = some kvs ∧ toTK d = some k ∧ valC kvs k = some c ∧ Q c e2 s2) := ⟨run_tget⟩
theorem run_isDt {l : Nat} {Q : Nat → Ev → St → Prop} (h : ∃ kvs, tkAt s l = some kvs ∧ Q l e s) : RunX Y (isDt l) e s Q := by
  obtain ⟨kvs, h1, h2⟩ := h
  refine Run.i ?_
  unfold isDt
  dsimp only
  rw [h1]
  exact h2
theorem run_tget2 {ml : M Nat} {mk : M D} {mc : M Cl} {Q : Cl → Ev → St → Prop} (h : RunX Y ml e s fun l e1 s1 => ∃ k0, tkAt s1 l = some k0 ∧ RunX Y mk e1 s1 fun d e2 s2 => RunX Y mc e2 s2 fun z e3 s3 => ∃ kvs k, tkAt s3 l = some kvs ∧ toTK d = some k ∧ Q ((valC kvs k).getD z) e3 s3) : RunX Y (mTGet2 ml mk mc) e s Q :=
  run_bind (h.mono fun l _ _ ⟨k0, h0, h⟩ => run_bind (run_isDt ⟨k0, h0, run_bind (h.mono fun d _ _ h => run_bind (h.mono fun z _ _ ⟨kvs, k, h1, h2, h3⟩ => Run.i (by
    dsimp only
    rw [h1, h2]
    exact h3)))⟩))
instance {ml : M Nat} {mk : M D} {mc : M Cl} {Q : Cl → Ev → St → Prop} : Step (RunX Y (mTGet2 ml mk mc) e s Q) (RunX Y ml e s fun l e1 s1 => ∃ k0, tkAt s1 l = some k0 ∧ RunX Y mk e1 s1 fun d e2 s2 => RunX Y mc e2 s2 fun z e3 s3 => ∃ kvs k, tkAt s3 l = some kvs ∧ toTK d = some k ∧ Q ((valC kvs k).getD z) e3 s3) := ⟨run_tget2⟩
theorem run_tput {ml : M Nat} {mk : M D} {mc : M Cl} {Q : Fl → Ev → St → Prop} (h : RunX Y mc e s fun c e1 s1 => RunX Y ml e1 s1 fun l e2 s2 => RunX Y mk e2 s2 fun d e3 s3 => ∃ kvs k, s3[l]? = some (.dt kvs) ∧ toTK d = some k ∧ kvs.length < sizeLine ∧ Q .nx e3 (s3.set l (.dt (putC kvs k c)))) : RunX Y (mTPut ml mk mc) e s Q :=
  run_bind (h.mono fun _ _ _ h => run_bind (h.mono fun _ _ _ h => run_bind (h.mono fun _ _ _ ⟨kvs, k, h1, h2, h3, h4⟩ => Run.i (by
    dsimp only
    rw [h1, h2]
    dsimp only
    rw [if_pos h3]
    exact h4))))
instance {ml : M Nat} {mk : M D} {mc : M Cl} {Q : Fl → Ev → St → Prop} : Step (RunX Y (mTPut ml mk mc) e s Q) (RunX Y mc e s fun c e1 s1 => RunX Y ml e1 s1 fun l e2 s2 => RunX Y mk e2 s2 fun d e3 s3 => ∃ kvs k, s3[l]? = some (.dt kvs) ∧ toTK d = some k ∧ kvs.length < sizeLine ∧ Q .nx e3 (s3.set l (.dt (putC kvs k c)))) := ⟨run_tput⟩
theorem run_tin {neg : Bool} {ml : M Nat} {mk : M D} {Q : D → Ev → St → Prop} (h : RunX Y mk e s fun d e1 s1 => RunX Y ml e1 s1 fun l e2 s2 => ∃ kvs k, tkAt s2 l = some kvs ∧ toTK d = some k ∧ Q (.bool (if neg then !(valC kvs k).isSome else (valC kvs k).isSome)) e2 s2) : RunX Y (mTIn neg mk ml) e s Q :=
  run_bind (h.mono fun _ _ _ h => run_bind (h.mono fun _ _ _ ⟨kvs, k, h1, h2, h3⟩ => Run.i (by
    dsimp only
    rw [h1, h2]
    exact h3)))
instance {neg : Bool} {ml : M Nat} {mk : M D} {Q : D → Ev → St → Prop} : Step (RunX Y (mTIn neg mk ml) e s Q) (RunX Y mk e s fun d e1 s1 => RunX Y ml e1 s1 fun l e2 s2 => ∃ kvs k, tkAt s2 l = some kvs ∧ toTK d = some k ∧ Q (.bool (if neg then !(valC kvs k).isSome else (valC kvs k).isSome)) e2 s2) := ⟨run_tin⟩
theorem run_tnew {Q : Nat → Ev → St → Prop} (h : Q s.length e (s ++ [.dt []])) : RunX Y mTNew e s Q := Run.i h
instance {Q : Nat → Ev → St → Prop} : Step (RunX Y mTNew e s Q) (Q s.length e (s ++ [.dt []])) := ⟨run_tnew⟩
theorem run_fld {c f : Str} {ml : M Nat} {Q : Cl → Ev → St → Prop} (h : RunX Y ml e s fun l e1 s1 => ∃ fs x, s1[l]? = some (.ins c fs) ∧ fs.lookup f = some x ∧ Q x e1 s1) : RunX Y (mFld c ml f) e s Q :=
  run_bind (h.mono fun l _ _ ⟨fs, x, h1, h2, h3⟩ => Run.i (by
    dsimp only
    rw [h1]
    dsimp only
    rw [if_pos rfl, h2]
    exact h3))
instance {c f : Str} {ml : M Nat} {Q : Cl → Ev → St → Prop} : Step (RunX Y (mFld c ml f) e s Q) (RunX Y ml e s fun l e1 s1 => ∃ fs x, s1[l]? = some (.ins c fs) ∧ fs.lookup f = some x ∧ Q x e1 s1) := ⟨run_fld⟩
theorem run_setF {c f : Str} {ml : M Nat} {mc : M Cl} {Q : Fl → Ev → St → Prop} (h : RunX Y mc e s fun x e1 s1 => RunX Y ml e1 s1 fun l e2 s2 => ∃ fs, s2[l]? = some (.ins c fs) ∧ fs.length < 1000 ∧ Q .nx e2 (s2.set l (.ins c (putFC f x fs)))) : RunX Y (mSetF c ml f mc) e s Q :=
  run_bind (h.mono fun _ _ _ h => run_bind (h.mono fun _ _ _ ⟨fs, h1, h2, h3⟩ => Run.i (by
    dsimp only
    rw [h1]
    dsimp only
    rw [if_pos ⟨rfl, h2⟩]
    exact h3)))
instance {c f : Str} {ml : M Nat} {mc : M Cl} {Q : Fl → Ev → St → Prop} : Step (RunX Y (mSetF c ml f mc) e s Q) (RunX Y mc e s fun x e1 s1 => RunX Y ml e1 s1 fun l e2 s2 => ∃ fs, s2[l]? = some (.ins c fs) ∧ fs.length < 1000 ∧ Q .nx e2 (s2.set l (.ins c (putFC f x fs)))) := ⟨run_setF⟩
theorem run_isIns {c m : Str} {l : Nat} {Q : Nat → Ev → St → Prop} (h : ∃ fs, s[l]? = some (.ins c fs) ∧ fs.lookup m = none ∧ Q l e s) : RunX Y (isIns c m l) e s Q := by
  obtain ⟨fs, h1, h2, h3⟩ := h
  refine Run.i ?_
  unfold isIns
  dsimp only
  rw [h1]
  dsimp only
  rw [if_pos ⟨rfl, h2⟩]
  exact h3
theorem run_meth {c m : Str} {F : Fn} {ml : M Nat} {as : List (M Cl)} {Q : Cl → Ev → St → Prop} (h : RunX Y ml e s fun l e1 s1 => ∃ fs, s1[l]? = some (.ins c fs) ∧ fs.lookup m = none ∧ RunX Y (evA as) e1 s1 fun cs e2 s2 => FRunX NoF F (.lo l :: cs) s2 fun x s3 => Q x e2 s3) : RunX Y (mMeth c m F ml as) e s Q :=
  run_bind (h.mono fun l _ _ ⟨fs, h1, h2, h3⟩ => run_bind (run_isIns ⟨fs, h1, h2, run_bind (h3.mono fun cs e1 s1 h => Run.i (by
    obtain ⟨x, s2, q1, q2⟩ := h.to
    dsimp only
    rw [q1]
    exact q2))⟩))
instance {c m : Str} {F : Fn} {ml : M Nat} {as : List (M Cl)} {Q : Cl → Ev → St → Prop} : Step (RunX Y (mMeth c m F ml as) e s Q) (RunX Y ml e s fun l e1 s1 => ∃ fs, s1[l]? = some (.ins c fs) ∧ fs.lookup m = none ∧ RunX Y (evA as) e1 s1 fun cs e2 s2 => FRunX NoF F (.lo l :: cs) s2 fun x s3 => Q x e2 s3) := ⟨run_meth⟩
theorem run_make {c : Str} {F : Fn} {as : List (M Cl)} {Q : Nat → Ev → St → Prop} (h : RunX Y (evA as) e s fun cs e1 s1 => FRunX NoF F (.lo s1.length :: cs) (s1 ++ [.ins c []]) fun x s2 => x = .sh .none ∧ Q s1.length e1 s2) : RunX Y (mMake c F as) e s Q :=
  run_bind (h.mono fun cs e1 s1 h => Run.i (by
    obtain ⟨x, s2, q1, rfl, q2⟩ := h.to
    dsimp only
    rw [q1]
    exact q2))
instance {c : Str} {F : Fn} {as : List (M Cl)} {Q : Nat → Ev → St → Prop} : Step (RunX Y (mMake c F as) e s Q) (RunX Y (evA as) e s fun cs e1 s1 => FRunX NoF F (.lo s1.length :: cs) (s1 ++ [.ins c []]) fun x s2 => x = .sh .none ∧ Q s1.length e1 s2) := ⟨run_make⟩
theorem run_mLock {p : M Nat} {m : M α} {Q : α → Ev → St → Prop} (h : RunX NoY p e s fun l _ _ => ∃ kvs, s[l]? = some (.dt kvs) ∧ RunX NoY m e (s.set l (.ft kvs)) fun x e1 s1 => ∃ kvs', s1[l]? = some (.ft kvs') ∧ Q x e1 (s1.set l (.dt kvs'))) : RunX Y (mLock p m) e s Q := by
  refine Run.i ?_
  unfold mLock
  unfold RunX at h
  cases q : p ⟨e, s⟩ with
  | ok l x =>
    rw [q] at h
    obtain ⟨kvs, h1, h2⟩ := h
    dsimp only
    rw [h1]
    dsimp only
    cases q2 : m ⟨e, s.set l (.ft kvs)⟩ with
    | ok y z =>
      rw [q2] at h2
      obtain ⟨kvs', h3, h4⟩ := h2
      dsimp only
      rw [h3]
      exact h4
    | exc y z => rw [q2] at h2; exact h2.elim
    | bad => rw [q2] at h2; exact h2.elim
  | exc y x => rw [q] at h; exact h.elim
  | bad => rw [q] at h; exact h.elim
instance {p : M Nat} {m : M α} {Q : α → Ev → St → Prop} : Step (RunX Y (mLock p m) e s Q) (RunX NoY p e s fun l _ _ => ∃ kvs, s[l]? = some (.dt kvs) ∧ RunX NoY m e (s.set l (.ft kvs)) fun x e1 s1 => ∃ kvs', s1[l]? = some (.ft kvs') ∧ Q x e1 (s1.set l (.dt kvs'))) := ⟨run_mLock⟩
theorem run_keysT {ml : M Nat} {Q : List D → Ev → St → Prop} (h : RunX Y ml e s fun l e1 s1 => ∃ kvs, s1[l]? = some (.ft kvs) ∧ Q (keysD kvs) e1 s1) : RunX Y (mKeysT ml) e s Q :=
  run_bind (h.mono fun l _ _ ⟨kvs, h1, h2⟩ => Run.i (by
    dsimp only
    rw [h1]
    exact h2))
instance {ml : M Nat} {Q : List D → Ev → St → Prop} : Step (RunX Y (mKeysT ml) e s Q) (RunX Y ml e s fun l e1 s1 => ∃ kvs, s1[l]? = some (.ft kvs) ∧ Q (keysD kvs) e1 s1) := ⟨run_keysT⟩
theorem run_sortL {Q : D → Ev → St → Prop} (h : RunX Y m e s fun d e1 s1 => ∃ ds, d = .list ds ∧ sortB ds = true ∧ Q (.list (sortD ds)) e1 s1) : RunX Y (mSortL m) e s Q :=
  run_bind (h.mono fun d _ _ ⟨ds, h1, h2, h3⟩ => run_opt ⟨.list (sortD ds), by subst h1; dsimp only; rw [if_pos h2], h3⟩)
instance {Q : D → Ev → St → Prop} : Step (RunX Y (mSortL m) e s Q) (RunX Y m e s fun d e1 s1 => ∃ ds, d = .list ds ∧ sortB ds = true ∧ Q (.list (sortD ds)) e1 s1) := ⟨run_sortL⟩
theorem run_sortDT {ml : M Nat} {Q : D → Ev → St → Prop} (h : RunX Y ml e s fun l e1 s1 => ∃ kvs, tkAt s1 l = some kvs ∧ sortB (keysD kvs) = true ∧ Q (.list (sortD (keysD kvs))) e1 s1) : RunX Y (mSortDT ml) e s Q :=
  run_bind (h.mono fun l _ _ ⟨kvs, h1, h2, h3⟩ => Run.i (by
    dsimp only
    rw [h1]
    dsimp only
    rw [if_pos h2]
    exact h3))
instance {ml : M Nat} {Q : D → Ev → St → Prop} : Step (RunX Y (mSortDT ml) e s Q) (RunX Y ml e s fun l e1 s1 => ∃ kvs, tkAt s1 l = some kvs ∧ sortB (keysD kvs) = true ∧ Q (.list (sortD (keysD kvs))) e1 s1) := ⟨run_sortDT⟩
theorem run_listR1 {Q : D → Ev → St → Prop} (h : RunX Y m e s fun d e1 s1 => ∃ j, d = .int j ∧ (inLine j = true ∧ (j - 0).toNat ≤ 16777216) ∧ Q (.list (rngD 0 (j - 0).toNat)) e1 s1) : RunX Y (mListR1 m) e s Q :=
  run_bind (h.mono fun d _ _ ⟨j, h1, h2, h3⟩ => run_opt ⟨.list (rngD 0 (j - 0).toNat), by subst h1; dsimp only; rw [if_pos h2], h3⟩)
instance {Q : D → Ev → St → Prop} : Step (RunX Y (mListR1 m) e s Q) (RunX Y m e s fun d e1 s1 => ∃ j, d = .int j ∧ (inLine j = true ∧ (j - 0).toNat ≤ 16777216) ∧ Q (.list (rngD 0 (j - 0).toNat)) e1 s1) := ⟨run_listR1⟩
end
/-- all others as they were -/
def Fr (b : Nat) (s s' : St) : Prop := s.length ≤ s'.length ∧ ∀ j, j < s.length → j ≠ b → s'[j]? = s[j]?
theorem Fr.refl (b : Nat) (s : St) : Fr b s s := ⟨Nat.le_refl _, fun _ _ _ => rfl⟩
theorem Fr.trans {b : Nat} {s s1 s2 : St} (h : Fr b s s1) (k : Fr b s1 s2) : Fr b s s2 := ⟨Nat.le_trans h.1 k.1, fun j hj hb => (k.2 j (Nat.lt_of_lt_of_le hj h.1) hb).trans (h.2 j hj hb)⟩
theorem Fr.trim {b : Nat} {c : Cl} {s s' : St} (h : Fr b s s') : Fr b s (trim s.length c s') := ⟨trim_ge h.1, fun j hj hb => (trim_get hj).trans (h.2 j hj hb)⟩
theorem Fr.set {b : Nat} {o : Ob} {s : St} : Fr b s (s.set b o) := ⟨by simp, fun j _ hb => set_other hb⟩
theorem Fr.app {b : Nat} {o : Ob} {s : St} : Fr b s (s ++ [o]) := ⟨by simp, fun j hj _ => app_old hj⟩
theorem Fr.at_ {b l : Nat} {o : Ob} {s s' : St} (h : Fr b s s') (k : s[l]? = some o) (hb : l ≠ b) : s'[l]? = some o := (h.2 l (lt_of_at k) hb).trans k
theorem Fr.put {b l : Nat} {o : Ob} {s0 s : St} (h : Fr b s0 s) (hl : s0.length ≤ l) : Fr b s0 (s.set l o) := ⟨by simpa using h.1, fun j hj hb => (set_other (by omega)).trans (h.2 j hj hb)⟩
/-- the state of the draws -/
def S2 (l : Nat) (s : St) : Prop := ∃ a b : Int, s[l]? = some (.lst [.sh (.int a), .sh (.int b)]) ∧ 0 ≤ a ∧ 0 ≤ b ∧ b < 4294967296
theorem S2.lt {l : Nat} {s : St} (h : S2 l s) : l < s.length := by
  obtain ⟨a, b, h, _⟩ := h
  exact lt_of_at h
theorem S2.of {l : Nat} {s s' : St} (h : S2 l s) (k : s'[l]? = s[l]?) : S2 l s' := by
  obtain ⟨a, b, h, q⟩ := h
  exact ⟨a, b, k.trans h, q⟩
theorem S2.trim {l n : Nat} {k : Cl} {s : St} (h : S2 l s) (hb : l < n) : S2 l (trim n k s) := h.of (trim_get hb)
theorem S2.app {l : Nat} {o : Ob} {s : St} (h : S2 l s) : S2 l (s ++ [o]) := h.of (app_old h.lt)
end Ds
namespace Ds
open PySem PySem.Spec PyProof.Rows L2 Dn
section
variable {α β : Type} {e : Ev} {s : St} {m : M D} {Y : Exn → Ev → St → Prop} {YF : Exn → St → Prop}
theorem RunX.ymono {m : M α} {Y Y' : Exn → Ev → St → Prop} {Q : α → Ev → St → Prop} (h : RunX Y m e s Q) (k : ∀ y e' s', Y y e' s' → Y' y e' s') : RunX Y' m e s Q := by
  unfold RunX at *
  cases q : m ⟨e, s⟩ with
  | ok a x => rw [q] at h; exact h
  | exc y x => rw [q] at h; exact k _ _ _ h
  | bad => rw [q] at h; exact h
theorem RunX.lift {m : M α} {Q : α → Ev → St → Prop} (h : Run m e s Q) : RunX Y m e s Q := RunX.ymono h fun _ _ _ z => z.elim
theorem FRunX.ymono {F : Fn} {as : Ev} {Y Y' : Exn → St → Prop} {Q : Cl → St → Prop} (h : FRunX Y F as s Q) (k : ∀ y s', Y y s' → Y' y s') : FRunX Y' F as s Q := by
  unfold FRunX at *
  cases q : F as s with
  | ok a x => rw [q] at h; exact h
  | exc y x => rw [q] at h; exact k _ _ h
  | bad => rw [q] at h; exact h
theorem FRunX.lift {F : Fn} {as : Ev} {Q : Cl → St → Prop} (h : FRun F as s Q) : FRunX YF F as s Q := FRunX.ymono h fun _ _ z => z.elim
theorem run_callX {F : Fn} {as : List (M Cl)} {Q : Cl → Ev → St → Prop} (h : RunX Y (evA as) e s fun cs e1 s1 => FRunX (fun y s2 => Y y e1 s2) F cs s1 fun c s2 => Q c e1 s2) : RunX Y (mCallX F as) e s Q :=
  run_bind (h.mono fun cs e1 s1 h => Run.i (by
    unfold FRunX at h
    dsimp only
    cases q : F cs s1 with
    | ok c s2 => rw [q] at h; exact h
    | exc y s2 => rw [q] at h; exact h
    | bad => rw [q] at h; exact h))
instance {F : Fn} {as : List (M Cl)} {Q : Cl → Ev → St → Prop} : Step (RunX Y (mCallX F as) e s Q) (RunX Y (evA as) e s fun cs e1 s1 => FRunX (fun y s2 => Y y e1 s2) F cs s1 fun c s2 => Q c e1 s2) := ⟨run_callX⟩
theorem run_methX {c m : Str} {F : Fn} {ml : M Nat} {as : List (M Cl)} {Q : Cl → Ev → St → Prop} (h : RunX Y ml e s fun l e1 s1 => ∃ fs, s1[l]? = some (.ins c fs) ∧ fs.lookup m = none ∧ RunX Y (evA as) e1 s1 fun cs e2 s2 => FRunX (fun y s3 => Y y e2 s3) F (.lo l :: cs) s2 fun x s3 => Q x e2 s3) : RunX Y (mMethX c m F ml as) e s Q :=
  run_bind (h.mono fun l _ _ ⟨fs, h1, h2, h3⟩ => run_bind (run_isIns ⟨fs, h1, h2, run_bind (h3.mono fun cs e1 s1 h => Run.i (by
    unfold FRunX at h
    dsimp only
    cases q : F (.lo l :: cs) s1 with
    | ok c s2 => rw [q] at h; exact h
    | exc y s2 => rw [q] at h; exact h
    | bad => rw [q] at h; exact h))⟩))
instance {c m : Str} {F : Fn} {ml : M Nat} {as : List (M Cl)} {Q : Cl → Ev → St → Prop} : Step (RunX Y (mMethX c m F ml as) e s Q) (RunX Y ml e s fun l e1 s1 => ∃ fs, s1[l]? = some (.ins c fs) ∧ fs.lookup m = none ∧ RunX Y (evA as) e1 s1 fun cs e2 s2 => FRunX (fun y s3 => Y y e2 s3) F (.lo l :: cs) s2 fun x s3 => Q x e2 s3) := ⟨run_methX⟩
theorem run_raise {x : Str} {Q : Fl → Ev → St → Prop} (h : Y ⟨x, none⟩ e s) : RunX Y (mRaise x) e s Q := Run.i h
instance {x : Str} {Q : Fl → Ev → St → Prop} : Step (RunX Y (mRaise x) e s Q) (Y ⟨x, none⟩ e s) := ⟨run_raise⟩
theorem run_raiseN {x : Str} {Q : Fl → Ev → St → Prop} (h : RunX Y m e s fun d e1 s1 => ∃ n, d = .int n ∧ Y ⟨x, some n⟩ e1 s1) : RunX Y (mRaiseN x m) e s Q :=
  run_bind (h.mono fun d e1 s1 ⟨n, h1, h2⟩ => Run.i (by
    subst h1
    exact h2))
instance {x : Str} {Q : Fl → Ev → St → Prop} : Step (RunX Y (mRaiseN x m) e s Q) (RunX Y m e s fun d e1 s1 => ∃ n, d = .int n ∧ Y ⟨x, some n⟩ e1 s1) := ⟨run_raiseN⟩
theorem run_tryAs {i : Nat} {hit : Str → Option Bool} {mb : M Fl} {ms : Exn → M Fl} {Q : Fl → Ev → St → Prop} (h : RunX (fun y e1 s1 => ∃ b, hit y.cls = some b ∧ (b = true → i < e1.length ∧ RunX NoY (ms y) (e1.set i .no) s1 fun fl e2 s2 => Q fl (e2.set i .no) s2) ∧ (b = false → Y y e1 s1)) mb e s Q) : RunX Y (mTryAs i hit mb ms) e s Q := by
  refine Run.i ?_
  unfold mTryAs
  unfold RunX at h
  cases q : mb ⟨e, s⟩ with
  | ok fl x => rw [q] at h; exact h
  | bad => rw [q] at h; exact h
  | exc y x =>
    rw [q] at h
    obtain ⟨b, h1, h2, h3⟩ := h
    dsimp only
    rw [h1]
    cases b with
    | false => exact h3 rfl
    | true =>
      obtain ⟨h4, h5⟩ := h2 rfl
      dsimp only
      rw [if_pos h4]
      cases q2 : ms y ⟨x.e.set i .no, x.s⟩ with
      | ok fl z => rw [q2] at h5; exact h5
      | exc y z => rw [q2] at h5; exact h5.elim
      | bad => rw [q2] at h5; exact h5.elim
theorem run_isB {b : Bool} {Q : D → Ev → St → Prop} (h : Q (.bool b) e s) : RunX Y (mIsB (some b)) e s Q := run_opt ⟨_, rfl, h⟩
instance {b : Bool} {Q : D → Ev → St → Prop} : Step (RunX Y (mIsB (some b)) e s Q) (Q (.bool b) e s) := ⟨run_isB⟩
theorem run_num {n : Int} {Q : D → Ev → St → Prop} (h : Q (.int n) e s) : RunX Y (mNum (some n)) e s Q := run_opt ⟨_, rfl, h⟩
instance {n : Int} {Q : D → Ev → St → Prop} : Step (RunX Y (mNum (some n)) e s Q) (Q (.int n) e s) := ⟨run_num⟩
theorem run_msIf {z : Str} {m1 : Option Int → M Fl} {m2 : Exn → M Fl} {y : Exn} {Q : Fl → Ev → St → Prop} (h1 : y.cls = z → RunX Y (m1 y.num) e s Q) (h2 : ¬ y.cls = z → RunX Y (m2 y) e s Q) : RunX Y (msIf z m1 m2 y) e s Q := by
  unfold msIf
  split
  · exact h1 (by assumption)
  · exact h2 (by assumption)
theorem run_msHit {z : Str} {m1 : Option Int → M Fl} {m2 : Exn → M Fl} {n : Option Int} {Q : Fl → Ev → St → Prop} (h1 : RunX Y (m1 n) e s Q) : RunX Y (msIf z m1 m2 ⟨z, n⟩) e s Q := run_msIf (fun _ => h1) fun k => absurd rfl k
end
end Ds
namespace Ds
open PySem PySem.Spec PyProof.Rows L2 Dn
section
variable {K : Frag} {G : Hp} {g : Gh} {H : Hp} {σ : L2.St} {δ : Sx}
theorem Rp.key {K : Frag} {h : Hp} : ∀ (k : Key), Rp K h (kV k) (keyD k)
  | .inl i => .int i
  | .inr x => .str x
theorem Rps.keysL {K : Frag} {h0 : Hp} : ∀ {vs : List (Key × V)} {kvs : List (Key × Cl)} {g : Gh}, KR K g vs kvs → Rps K h0 (vs.map fun kv => kV kv.1) (kvs.map fun kv => keyD kv.1)
  | _, _, _, .nil => .nil
  | (p :: vs), (q :: kvs), _, .cons h t => .cons (by show Rp K h0 (kV p.1) (keyD q.1); rw [h.1]; exact Rp.key _) (Rps.keysL t)
/-- the keys of a locked dict -/
def keysK (kvs : List (Key × Cl)) : List D := kvs.map fun kv => keyD kv.1
end
section
variable {X : Cx} {E : XQ} {tg e : Expr} {pos : Pos} {ml p : M Nat}
def mKeysK (ml : M Nat) : M (List D) := mBind ml fun l δ => match δ.s[l]? with
  | some (.fk kvs) => .ok (keysK kvs) δ
  | _ => .bad
/-- while the dict at p is locked -/
def mLockK {α : Type} (p : M Nat) (m : M α) : M α := fun δ => match p δ with
  | .ok l _ => (match δ.s[l]? with
    | some (.dk kvs) => (match m ⟨δ.e, δ.s.set l (.fk kvs)⟩ with
      | .ok x δ' => (match δ'.s[l]? with
        | some (.fk kvs') => .ok x ⟨δ'.e, δ'.s.set l (.dk kvs')⟩
        | _ => .bad)
      | _ => .bad)
    | _ => .bad)
  | _ => .bad
end
/-- d[k], d locked -/
def mDGetF (ml : M Nat) (mk : M D) : M Cl := mBind ml fun l => mBind mk fun e δ => match δ.s[l]?, toK e with
  | some (.fk kvs), some k => match valC kvs k with
    | some c => .ok c δ
    | none => .bad
  | _, _ => .bad
section
variable {X : Cx} {E : XQ} {a b e o f : Expr} {pos : Pos} {m mk mx : M D} {mc : M Cl} {ml : M Nat} {m1 m2 : M Fl}
/-- x.pop() -/
def mPop0 (ml : M Nat) : M Cl := mBind (mIsL ml) fun l δ => match δ.s[l]? with
  | some (.lst xs) => match xs[xs.length - 1]? with
    | some c => .ok c ⟨δ.e, δ.s.set l (.lst xs.dropLast)⟩
    | none => .bad
  | _ => .bad
theorem all2_dropLast {α β : Type} {R : α → β → Prop} : ∀ {xs : List α} {ys : List β}, All2 R xs ys → All2 R xs.dropLast ys.dropLast
  | _, _, .nil => .nil
  | _, _, .cons _ .nil => .nil
  | _, _, .cons h (.cons h2 t) => .cons h (all2_dropLast (.cons h2 t))
theorem jc_pop0 {apos cpos : Pos}
    {PE0 : PE X (.Call (.Attribute o "pop" apos) [] [] cpos) (tBM0 X.K "list" rPop (tOfL X.K E ml))} : PE X (.Call (.Attribute o "pop" apos) [] [] cpos) (tOfC X.K E (mPop0 ml)) :=
  pe_imp PE0 fun σ H Q ⟨G, g, δ, re, po⟩ => by
    show tBM0 _ _ _ _ _ _ _
    unfold tBM0
    refine isL re po fun q l g1 H1 δ1 e1 re1 r1 ht po1 => ⟨ht, ?_⟩
    split at po1
    · rename_i xs hx
      split at po1
      · rename_i c hc
        obtain ⟨vs, h1, h2⟩ := re1.lstAt r1 hx
        obtain ⟨v', h3, h4⟩ := h2.get hc
        have hl := h2.length
        refine ⟨q, vs, v', rfl, rfl, h1, by rw [hl]; exact h3, ?_⟩
        exact Post.of po1 (re1.write hx rfl r1 (.lst (all2_dropLast h2))) v' h4
      · exact po1.elim
    · exact po1.elim
/-- d.pop(k, x) -/
def mDPop2 (ml : M Nat) (mk : M D) (mc : M Cl) : M Cl := mBind ml fun l => mBind (isDk l) fun l => mBind mk fun e => mBind mc fun z δ => match δ.s[l]?, toK e with
  | some (.dk kvs), some k => match valC kvs k with
    | some c => .ok c ⟨δ.e, δ.s.set l (.dk (dropC kvs k))⟩
    | none => .ok z δ
  | _, _ => .bad
/-- list(d) -/
def mListD (ml : M Nat) : M (List Cl) := mBind (evA [mLo ml]) fun cs δ => match cs with
  | [.lo l] => match δ.s[l]? with
    | some (.dk kvs) => .ok ((kvs.map fun kv => keyD kv.1).map Cl.sh) δ
    | _ => .bad
  | _ => .bad
theorem jo_listD {p : Pos} (hc : X.calm = true) (hg : Gl X "list") (hm : X.mg "list" = none) (hv : bootBuiltins "list" = some (.type "list")) (h : PE X e (tOfL X.K E ml))
    (he : starEach [e] X.env = (false, eval e X.env) :: starEach [] X.env := by rfl) (hpl : (backTo pos (starEach [] X.env)).any (·.1) = false := by rfl) : PE X (.Call (.Name "list" p) [e] [] pos) (tOfO X.K E (mListD ml)) :=
  pe_imp (pe_callTy (call_listD hc) hg hm hv (ja_c (jc_lo h) ja_nil he) (by decide) (by decide) he hpl) fun σ H Q ⟨G, g, δ, re, po⟩ => by
    refine tOfA.step re po fun vs cs g1 H1 δ1 e1 re1 r1 po1 => ?_
    split at po1
    · rename_i l
      split at po1
      · rename_i kvs hx
        cases r1 with
        | cons h t =>
          cases t with
          | nil =>
            cases h with
            | @lo _ q h =>
              obtain ⟨ws, h1, h2⟩ := re1.dkAt h hx
              exact ⟨q, ws, rfl, .inl h1, fun l hl => Post.late po1 re1 (ex_new hl) l (FrO.new re1 hl (rps_cr (Rps.keysL h2)))⟩
      · exact po1.elim
    · exact po1.elim
end
end Ds
namespace Ds
open PySem PySem.Spec PyProof.Rows L2 Dn
section
variable {α β : Type} {e : Ev} {s : St} {m : M D} {Y : Exn → Ev → St → Prop}
theorem run_dpop2 {ml : M Nat} {mk : M D} {mc : M Cl} {Q : Cl → Ev → St → Prop} (h : RunX Y ml e s fun l e1 s1 => ∃ k0, s1[l]? = some (.dk k0) ∧ RunX Y mk e1 s1 fun d e2 s2 => RunX Y mc e2 s2 fun z e3 s3 => ∃ kvs k, s3[l]? = some (.dk kvs) ∧ toK d = some k ∧ (∀ c, valC kvs k = some c → Q c e3 (s3.set l (.dk (dropC kvs k)))) ∧ (valC kvs k = none → Q z e3 s3)) : RunX Y (mDPop2 ml mk mc) e s Q :=
  run_bind (h.mono fun l _ _ ⟨k0, h0, h⟩ => run_bind (run_isDk ⟨k0, h0, run_bind (h.mono fun d _ _ h => run_bind (h.mono fun z _ s3 ⟨kvs, k, h1, h2, h3, h4⟩ => Run.i (by
    dsimp only
    rw [h1, h2]
    dsimp only
    cases q : valC kvs k with
    | none => exact h4 q
    | some c => exact h3 c q)))⟩))
instance {ml : M Nat} {mk : M D} {mc : M Cl} {Q : Cl → Ev → St → Prop} : Step (RunX Y (mDPop2 ml mk mc) e s Q) (RunX Y ml e s fun l e1 s1 => ∃ k0, s1[l]? = some (.dk k0) ∧ RunX Y mk e1 s1 fun d e2 s2 => RunX Y mc e2 s2 fun z e3 s3 => ∃ kvs k, s3[l]? = some (.dk kvs) ∧ toK d = some k ∧ (∀ c, valC kvs k = some c → Q c e3 (s3.set l (.dk (dropC kvs k)))) ∧ (valC kvs k = none → Q z e3 s3)) := ⟨run_dpop2⟩
theorem run_pop0 {ml : M Nat} {Q : Cl → Ev → St → Prop} (h : RunX Y ml e s fun l e1 s1 => ∃ xs c, s1[l]? = some (.lst xs) ∧ xs[xs.length - 1]? = some c ∧ Q c e1 (s1.set l (.lst xs.dropLast))) : RunX Y (mPop0 ml) e s Q :=
  run_bind (run_bind (h.mono fun l _ s1 ⟨xs, c, h1, h2, h3⟩ => run_isLst ⟨xs, h1, Run.i (by
    dsimp only
    rw [h1]
    dsimp only
    rw [h2]
    exact h3)⟩))
instance {ml : M Nat} {Q : Cl → Ev → St → Prop} : Step (RunX Y (mPop0 ml) e s Q) (RunX Y ml e s fun l e1 s1 => ∃ xs c, s1[l]? = some (.lst xs) ∧ xs[xs.length - 1]? = some c ∧ Q c e1 (s1.set l (.lst xs.dropLast))) := ⟨run_pop0⟩
theorem run_listD {ml : M Nat} {Q : List Cl → Ev → St → Prop} (h : RunX Y ml e s fun l e1 s1 => ∃ kvs, s1[l]? = some (.dk kvs) ∧ Q ((kvs.map fun kv => keyD kv.1).map Cl.sh) e1 s1) : RunX Y (mListD ml) e s Q :=
  run_bind (run_agC (run_lo (h.mono fun l _ s1 ⟨kvs, h1, h2⟩ => run_ag0 (Run.i (by
    dsimp only
    rw [h1]
    exact h2)))))
instance {ml : M Nat} {Q : List Cl → Ev → St → Prop} : Step (RunX Y (mListD ml) e s Q) (RunX Y ml e s fun l e1 s1 => ∃ kvs, s1[l]? = some (.dk kvs) ∧ Q ((kvs.map fun kv => keyD kv.1).map Cl.sh) e1 s1) := ⟨run_listD⟩
theorem run_dgetF {ml : M Nat} {mk : M D} {Q : Cl → Ev → St → Prop} (h : RunX Y ml e s fun l e1 s1 => RunX Y mk e1 s1 fun d e2 s2 => ∃ kvs k c, s2[l]? = some (.fk kvs) ∧ toK d = some k ∧ valC kvs k = some c ∧ Q c e2 s2) : RunX Y (mDGetF ml mk) e s Q :=
  run_bind (h.mono fun l _ _ h => run_bind (h.mono fun d _ _ ⟨kvs, k, c, h1, h2, h3, h4⟩ => Run.i (by
    dsimp only
    rw [h1, h2]
    dsimp only
    rw [h3]
    exact h4)))
instance {ml : M Nat} {mk : M D} {Q : Cl → Ev → St → Prop} : Step (RunX Y (mDGetF ml mk) e s Q) (RunX Y ml e s fun l e1 s1 => RunX Y mk e1 s1 fun d e2 s2 => ∃ kvs k c, s2[l]? = some (.fk kvs) ∧ toK d = some k ∧ valC kvs k = some c ∧ Q c e2 s2) := ⟨run_dgetF⟩
theorem run_keysK {ml : M Nat} {Q : List D → Ev → St → Prop} (h : RunX Y ml e s fun l e1 s1 => ∃ kvs, s1[l]? = some (.fk kvs) ∧ Q (keysK kvs) e1 s1) : RunX Y (mKeysK ml) e s Q :=
  run_bind (h.mono fun l _ _ ⟨kvs, h1, h2⟩ => Run.i (by
    dsimp only
    rw [h1]
    exact h2))
instance {ml : M Nat} {Q : List D → Ev → St → Prop} : Step (RunX Y (mKeysK ml) e s Q) (RunX Y ml e s fun l e1 s1 => ∃ kvs, s1[l]? = some (.fk kvs) ∧ Q (keysK kvs) e1 s1) := ⟨run_keysK⟩
theorem run_mLockK {p : M Nat} {m : M α} {Q : α → Ev → St → Prop} (h : RunX NoY p e s fun l _ _ => ∃ kvs, s[l]? = some (.dk kvs) ∧ RunX NoY m e (s.set l (.fk kvs)) fun x e1 s1 => ∃ kvs', s1[l]? = some (.fk kvs') ∧ Q x e1 (s1.set l (.dk kvs'))) : RunX Y (mLockK p m) e s Q := by
  refine Run.i ?_
  unfold mLockK
  unfold RunX at h
  cases q : p ⟨e, s⟩ with
  | bad => rw [q] at h; exact h.elim
  | exc x δ => rw [q] at h; exact h.elim
  | ok l δ =>
    rw [q] at h
    obtain ⟨kvs, h1, h2⟩ := h
    dsimp only
    rw [h1]
    dsimp only
    cases q2 : m ⟨e, s.set l (.fk kvs)⟩ with
    | ok y z =>
      rw [q2] at h2
      obtain ⟨kvs', h3, h4⟩ := h2
      dsimp only
      rw [h3]
      exact h4
    | exc y z => rw [q2] at h2; exact h2.elim
    | bad => rw [q2] at h2; exact h2.elim
instance {p : M Nat} {m : M α} {Q : α → Ev → St → Prop} : Step (RunX Y (mLockK p m) e s Q) (RunX NoY p e s fun l _ _ => ∃ kvs, s[l]? = some (.dk kvs) ∧ RunX NoY m e (s.set l (.fk kvs)) fun x e1 s1 => ∃ kvs', s1[l]? = some (.fk kvs') ∧ Q x e1 (s1.set l (.dk kvs'))) := ⟨run_mLockK⟩
theorem run_augF {c f : Str} {ml : M Nat} {F : Int → Int → Int} {k : Int} {Q : Fl → Ev → St → Prop} (h : RunX Y ml e s fun l e1 s1 => ∃ fs i, s1[l]? = some (.ins c fs) ∧ fs.length < 1000 ∧ fs.lookup f = some (.sh (.int i)) ∧ Q .nx e1 (s1.set l (.ins c (putFC f (.sh (.int (F i k))) fs)))) : RunX Y (mAugF c ml f F k) e s Q :=
  run_bind (h.mono fun l _ _ ⟨fs, i, h1, h2, h3, h4⟩ => Run.i (by
    dsimp only
    rw [h1]
    dsimp only
    rw [if_pos ⟨rfl, h2⟩, h3]
    exact h4))
instance {c f : Str} {ml : M Nat} {F : Int → Int → Int} {k : Int} {Q : Fl → Ev → St → Prop} : Step (RunX Y (mAugF c ml f F k) e s Q) (RunX Y ml e s fun l e1 s1 => ∃ fs i, s1[l]? = some (.ins c fs) ∧ fs.length < 1000 ∧ fs.lookup f = some (.sh (.int i)) ∧ Q .nx e1 (s1.set l (.ins c (putFC f (.sh (.int (F i k))) fs)))) := ⟨run_augF⟩
theorem run_rev {Q : D → Ev → St → Prop} (h : RunX Y m e s fun d e1 s1 => ∃ c, dRev d = some c ∧ Q c e1 s1) : RunX Y (mRev m) e s Q := run_bind (h.mono fun _ _ _ h => run_opt h)
instance {Q : D → Ev → St → Prop} : Step (RunX Y (mRev m) e s Q) (RunX Y m e s fun d e1 s1 => ∃ c, dRev d = some c ∧ Q c e1 s1) := ⟨run_rev⟩
end
end Ds
namespace Ds
open PySem PySem.Spec PyProof.Rows L2 Dn
section
variable {X : Cx} {E : XQ} {e : Expr} {es : List Expr} {pos : Pos} {as : List (M Cl)} {ml : M Nat}
def mTupC (as : List (M Cl)) : M Cl := mBind (evA as) fun cs => mOpt (if cs.length ≤ sizeLine then some (.tp cs) else none)
/-- l[::-1] of a list of the store -/
def mRevO (ml : M Nat) : M (List Cl) := mBind ml fun l δ => match δ.s[l]? with
  | some (.lst xs) => .ok xs.reverse δ
  | _ => .bad
def at_ (rev : Bool) (n i : Nat) : Nat := if rev = true then n - 1 - i else i
def mLenL (ml : M Nat) : M (Nat × Nat) := mBind ml fun l δ => match δ.s[l]? with
  | some (.lst xs) => .ok (l, xs.length) δ
  | _ => .bad
def forO (rev : Bool) (l n : Nat) (mg : MG Cl) (mb : M Fl) : Nat → M Fl
  | 0 => fun δ => match δ.s[l]? with
    | some (.lst xs) => if xs.length = n then .ok .nx δ else .bad
    | _ => .bad
  | k + 1 => fun δ => match δ.s[l]? with
    | some (.lst xs) => match (if xs.length = n then xs[at_ rev n (n - 1 - k)]? else none) with
      | some c => match mg c δ.e with
        | some e' => match mb ⟨e', δ.s⟩ with
          | .ok .nx δ2 => forO rev l n mg mb k δ2
          | .ok .ct δ2 => forO rev l n mg mb k δ2
          | .ok .bk δ2 => .ok .nx δ2
          | .ok (.rt s) δ2 => .ok (.rt s) δ2
          | .exc x δ2 => .exc x δ2
          | .bad => .bad
        | none => .bad
      | none => .bad
    | _ => .bad
def mForO (rev : Bool) (m : M (Nat × Nat)) (mg : MG Cl) (mb : M Fl) : M Fl := mBind m fun ln => forO rev ln.1 ln.2 mg mb ln.2
def pairL : List D → Option (List (Key × Cl))
  | [] => some []
  | .tuple [k, v] :: r => match toK k, pairL r with
    | some k', some t => some ((k', .sh v) :: t)
    | _, _ => none
  | _ :: _ => none
def mDictP (m : M D) : M Nat := mBind m fun d => match d with
  | .list xs => mBind (mOpt (pairL xs)) fun cs => mAll (.dk (mergeC [] cs))
  | _ => fun _ => .bad
/-- a or b, of None and ints -/
def truD : D → Option Bool
  | .none => some false
  | .int i => some (i != 0)
  | _ => none
def mOrZ (m1 m2 : M D) : M D := mBind m1 fun d => mBind (mOpt (truD d)) fun b => if b = true then mPure d else m2
end
end Ds
namespace Ds
open PySem PySem.Spec PyProof.Rows L2 Dn
section
variable {α β : Type} {e : Ev} {s : St} {m : M D} {Y : Exn → Ev → St → Prop}
theorem run_tupC {as : List (M Cl)} {Q : Cl → Ev → St → Prop} (h : RunX Y (evA as) e s fun cs e1 s1 => cs.length ≤ sizeLine ∧ Q (.tp cs) e1 s1) : RunX Y (mTupC as) e s Q := run_bind (h.mono fun cs _ _ ⟨a, b⟩ => run_opt ⟨.tp cs, if_pos a, b⟩)
instance {as : List (M Cl)} {Q : Cl → Ev → St → Prop} : Step (RunX Y (mTupC as) e s Q) (RunX Y (evA as) e s fun cs e1 s1 => cs.length ≤ sizeLine ∧ Q (.tp cs) e1 s1) := ⟨run_tupC⟩
theorem run_revO {ml : M Nat} {Q : List Cl → Ev → St → Prop} (h : RunX Y ml e s fun l e1 s1 => ∃ xs, s1[l]? = some (.lst xs) ∧ Q xs.reverse e1 s1) : RunX Y (mRevO ml) e s Q := run_bind (h.mono fun l _ _ ⟨xs, h1, h2⟩ => Run.i (by
  dsimp only
  rw [h1]
  exact h2))
instance {ml : M Nat} {Q : List Cl → Ev → St → Prop} : Step (RunX Y (mRevO ml) e s Q) (RunX Y ml e s fun l e1 s1 => ∃ xs, s1[l]? = some (.lst xs) ∧ Q xs.reverse e1 s1) := ⟨run_revO⟩
theorem run_lenL {ml : M Nat} {Q : Nat × Nat → Ev → St → Prop} (h : RunX Y ml e s fun l e1 s1 => ∃ xs, s1[l]? = some (.lst xs) ∧ Q (l, xs.length) e1 s1) : RunX Y (mLenL ml) e s Q := run_bind (h.mono fun l _ _ ⟨xs, h1, h2⟩ => Run.i (by
  dsimp only
  rw [h1]
  exact h2))
instance {ml : M Nat} {Q : Nat × Nat → Ev → St → Prop} : Step (RunX Y (mLenL ml) e s Q) (RunX Y ml e s fun l e1 s1 => ∃ xs, s1[l]? = some (.lst xs) ∧ Q (l, xs.length) e1 s1) := ⟨run_lenL⟩
theorem run_forW {rev : Bool} {mn : M (Nat × Nat)} {g : MG Cl} {mb : M Fl} {Q : Fl → Ev → St → Prop} (h : RunX Y mn e s fun ln e1 s1 => RunX Y (forO rev ln.1 ln.2 g mb ln.2) e1 s1 Q) : RunX Y (mForO rev mn g mb) e s Q := run_bind h
instance {rev : Bool} {mn : M (Nat × Nat)} {g : MG Cl} {mb : M Fl} {Q : Fl → Ev → St → Prop} : Step (RunX Y (mForO rev mn g mb) e s Q) (RunX Y mn e s fun ln e1 s1 => RunX Y (forO rev ln.1 ln.2 g mb ln.2) e1 s1 Q) := ⟨run_forW⟩
theorem run_dictP {Q : Nat → Ev → St → Prop} (h : RunX Y m e s fun d e1 s1 => ∃ xs cs, d = .list xs ∧ pairL xs = some cs ∧ Q s1.length e1 (s1 ++ [.dk (mergeC [] cs)])) : RunX Y (mDictP m) e s Q := run_bind (h.mono fun d _ _ ⟨xs, cs, h1, h2, h3⟩ => by
  subst h1
  exact run_optB ⟨cs, h2, Run.i h3⟩)
instance {Q : Nat → Ev → St → Prop} : Step (RunX Y (mDictP m) e s Q) (RunX Y m e s fun d e1 s1 => ∃ xs cs, d = .list xs ∧ pairL xs = some cs ∧ Q s1.length e1 (s1 ++ [.dk (mergeC [] cs)])) := ⟨run_dictP⟩
theorem run_orZ {m1 m2 : M D} {Q : D → Ev → St → Prop} (h : RunX Y m1 e s fun d e1 s1 => ∃ b, truD d = some b ∧ (b = true → Q d e1 s1) ∧ (b = false → RunX Y m2 e1 s1 Q)) : RunX Y (mOrZ m1 m2) e s Q := run_bind (h.mono fun d _ _ ⟨b, h1, h2, h3⟩ => run_optB ⟨b, h1, by
  cases b with
  | true => exact run_pure (h2 rfl)
  | false => exact h3 rfl⟩)
instance {m1 m2 : M D} {Q : D → Ev → St → Prop} : Step (RunX Y (mOrZ m1 m2) e s Q) (RunX Y m1 e s fun d e1 s1 => ∃ b, truD d = some b ∧ (b = true → Q d e1 s1) ∧ (b = false → RunX Y m2 e1 s1 Q)) := ⟨run_orZ⟩
end
end Ds
local macro_rules | `(tactic| walk_at "ds") => `(tactic| first
  | refine Dn.Step.go ?_
  | ((with_reducible apply Ds.run_var); (exact rfl))
  | ((with_reducible apply Ds.run_lv); (exact rfl))
  | ((with_reducible apply Ds.run_clD); (exact rfl))
  | ((with_reducible apply Ds.run_clL); (exact rfl))
  | (refine Dn.StepS.go ?_ ?_; (first | assumption | exact rfl | omega | (apply Dn.line_of; omega) | (apply Dn.inLine_of; omega) | (refine ⟨?_, ?_, of_decide_eq_true rfl⟩ <;> omega) | decide))
  | (with_reducible refine Ds.two_Tb (by decide) ?_)
  | (with_reducible refine Ds.two_Fb (by decide) ?_)
  | (refine ⟨_, rfl, Nat.le_of_ble_eq_true rfl, ?_⟩)
  | (refine ⟨Nat.le_of_ble_eq_true rfl, ?_⟩)
  | (refine ⟨_, rfl, ?_⟩))
namespace Ds
open PySem PySem.Spec PyProof.Rows L2 Dn
def mEmpC (ml : M Nat) (m : M D) : M D := mBind ml fun l => mBind m fun d δ => match δ.s[l]?, d with
  | some (.lst xs), .list [] => .ok (.bool xs.isEmpty) δ
  | _, _ => .bad
section
variable {e : Ev} {s : St} {ml : M Nat} {m : M D} {Y : Exn → Ev → St → Prop}
theorem run_emp {Q : D → Ev → St → Prop} (h : RunX Y ml e s fun l e1 s1 => RunX Y m e1 s1 fun d e2 s2 => ∃ xs, s2[l]? = some (.lst xs) ∧ d = .list [] ∧ Q (.bool xs.isEmpty) e2 s2) : RunX Y (mEmpC ml m) e s Q :=
  run_bind (h.mono fun _ _ _ h => run_bind (h.mono fun _ _ _ ⟨xs, h1, h2, h3⟩ => Run.i (by
    dsimp only
    rw [h1, h2]
    exact h3)))
instance {Q : D → Ev → St → Prop} : Step (RunX Y (mEmpC ml m) e s Q) (RunX Y ml e s fun l e1 s1 => RunX Y m e1 s1 fun d e2 s2 => ∃ xs, s2[l]? = some (.lst xs) ∧ d = .list [] ∧ Q (.bool xs.isEmpty) e2 s2) := ⟨run_emp⟩
end
end Ds
namespace Ds
open PySem PySem.Spec PyProof.Rows L2 Dn
section
variable {X : Cx} {E : XQ} {e : Expr} {es : List Expr} {pos : Pos} {ml : M Nat}
def forE (l n : Nat) (mg : MG Cl) (mb : M Fl) : Nat → M Fl
  | 0 => fun δ => match δ.s[l]? with
    | some (.lst xs) => if xs.length = n then .ok .nx δ else .bad
    | _ => .bad
  | k + 1 => fun δ => match δ.s[l]? with
    | some (.lst xs) => match (if xs.length = n then xs[n - 1 - k]? else none) with
      | some c => match mg (.tp [.sh (.int ((n - 1 - k : Nat) : Int)), c]) δ.e with
        | some e' => match mb ⟨e', δ.s⟩ with
          | .ok .nx δ2 => forE l n mg mb k δ2
          | .ok .ct δ2 => forE l n mg mb k δ2
          | .ok .bk δ2 => .ok .nx δ2
          | .ok (.rt s) δ2 => .ok (.rt s) δ2
          | .exc x δ2 => .exc x δ2
          | .bad => .bad
        | none => .bad
      | none => .bad
    | _ => .bad
def mForE (m : M (Nat × Nat)) (mg : MG Cl) (mb : M Fl) : M Fl := mBind m fun ln => forE ln.1 ln.2 mg mb ln.2
end
section
variable {X : Cx} {E : XQ} {tg e elt iter : Expr} {ifs : List Expr} {pos : Pos} {vs gv : List Nat} {mn : M (Nat × Nat)} {mg : MG Cl} {mt : M Bool} {me : M D}
def compO (vs : List Nat) (l n : Nat) (mg : MG Cl) (mt : M Bool) (me : M D) : Nat → M (List D)
  | 0 => fun δ => match δ.s[l]? with
    | some (.lst xs) => if xs.length = n then .ok [] δ else .bad
    | _ => .bad
  | k + 1 => fun δ => match δ.s[l]? with
    | some (.lst xs) => match (if xs.length = n then xs[n - 1 - k]? else none) with
      | some c => match mg c δ.e with
        | some e' => mBind mt (fun b => if b then mBind me (fun y => mBind (mWipe vs) fun _ => mBind (compO vs l n mg mt me k) fun ys => mPure (y :: ys)) else mBind (mWipe vs) fun _ => compO vs l n mg mt me k) ⟨e', δ.s⟩
        | none => .bad
      | none => .bad
    | _ => .bad
def compOE (vs : List Nat) (mg : MG Cl) (mt : M Bool) (me : M D) (ln : Nat × Nat) : M (List Cl) := fun δ =>
  if ln.2 ≤ sizeLine then
    match compO vs ln.1 ln.2 mg mt me ln.2 ⟨wipeE δ.e vs, δ.s⟩ with
    | .ok ys δ2 => .ok (ys.map Cl.sh) ⟨backE δ.e δ2.e vs, δ2.s⟩
    | _ => .bad
  else .bad
def mCompO (mn : M (Nat × Nat)) (vs : List Nat) (mg : MG Cl) (mt : M Bool) (me : M D) : M (List Cl) := mBind mn (compOE vs mg mt me)
end
end Ds
namespace Ds
open PySem PySem.Spec PyProof.Rows L2 Dn
section
variable {α β : Type} {e : Ev} {s : St} {m : M D} {Y : Exn → Ev → St → Prop}
theorem run_forWE {mn : M (Nat × Nat)} {g : MG Cl} {mb : M Fl} {Q : Fl → Ev → St → Prop} (h : RunX Y mn e s fun ln e1 s1 => RunX Y (forE ln.1 ln.2 g mb ln.2) e1 s1 Q) : RunX Y (mForE mn g mb) e s Q := run_bind h
instance {mn : M (Nat × Nat)} {g : MG Cl} {mb : M Fl} {Q : Fl → Ev → St → Prop} : Step (RunX Y (mForE mn g mb) e s Q) (RunX Y mn e s fun ln e1 s1 => RunX Y (forE ln.1 ln.2 g mb ln.2) e1 s1 Q) := ⟨run_forWE⟩
theorem run_compO {mn : M (Nat × Nat)} {vs : List Nat} {g : MG Cl} {mt : M Bool} {me : M D} {Q : List Cl → Ev → St → Prop}
    (h : RunX Y mn e s fun ln e1 s1 => ln.2 ≤ sizeLine ∧ RunX NoY (compO vs ln.1 ln.2 g mt me ln.2) (wipeE e1 vs) s1 fun ys e2 s2 => Q (ys.map Cl.sh) (backE e1 e2 vs) s2) : RunX Y (mCompO mn vs g mt me) e s Q :=
  run_bind (h.mono fun ln e1 s1 ⟨h1, h2⟩ => by
    unfold RunX compOE
    dsimp only
    rw [if_pos h1]
    unfold RunX at h2
    cases q : compO vs ln.1 ln.2 g mt me ln.2 ⟨wipeE e1 vs, s1⟩ with
    | ok ys x => rw [q] at h2; exact h2
    | exc y x => rw [q] at h2; exact h2
    | bad => rw [q] at h2; exact h2)
instance {mn : M (Nat × Nat)} {vs : List Nat} {g : MG Cl} {mt : M Bool} {me : M D} {Q : List Cl → Ev → St → Prop} : Step (RunX Y (mCompO mn vs g mt me) e s Q) (RunX Y mn e s fun ln e1 s1 => ln.2 ≤ sizeLine ∧ RunX NoY (compO vs ln.1 ln.2 g mt me ln.2) (wipeE e1 vs) s1 fun ys e2 s2 => Q (ys.map Cl.sh) (backE e1 e2 vs) s2) := ⟨run_compO⟩
end
end Ds
namespace Ds
open PySem PySem.Spec PyProof.Rows L2 Dn
section
variable {X : Cx} {E : XQ} {o f : Expr} {pos p cpos apos c0 c1 : Pos} {c y z : Str} {j j1 j2 : Nat} {m : M D}
def mRepl (y z : Str) (m : M D) : M D := mBind m fun d => mOpt (match d with
  | .str x => if x.length + (x.length + 1) * z.length ≤ 16777216 then some (.str (Txt.replace x y z)) else none
  | _ => none)
theorem run_repl {e : Ev} {s : St} {Y : Exn → Ev → St → Prop} {Q : D → Ev → St → Prop} (h : RunX Y m e s fun d e1 s1 => ∃ x, d = .str x ∧ x.length + (x.length + 1) * z.length ≤ 16777216 ∧ Q (.str (Txt.replace x y z)) e1 s1) : RunX Y (mRepl y z m) e s Q := run_bind (h.mono fun d _ _ ⟨x, h1, h2, h3⟩ => by
  subst h1
  exact run_opt ⟨_, if_pos h2, h3⟩)
instance {e : Ev} {s : St} {Y : Exn → Ev → St → Prop} {Q : D → Ev → St → Prop} : Step (RunX Y (mRepl y z m) e s Q) (RunX Y m e s fun d e1 s1 => ∃ x, d = .str x ∧ x.length + (x.length + 1) * z.length ≤ 16777216 ∧ Q (.str (Txt.replace x y z)) e1 s1) := ⟨run_repl⟩
end
end Ds
namespace Ds
open PySem PySem.Spec PyProof.Rows L2 Dn
def pickL {α : Type} (xs : List α) (lo hi st : Option Int) : List α := (sliceRange (sliceBounds lo hi st xs.length).1 (sliceBounds lo hi st xs.length).2.1 (sliceBounds lo hi st xs.length).2.2).filterMap (xs[·]?)
section
variable {X : Cx} {E : XQ} {e es : Expr} {lo : Option Expr} {te : TE} {tl ts : TO} {p2 pos : Pos} {m : M D} {ml ms : M (Option Int)}
def dStep (d : D) (lo st : Option Int) : Option D := match d with
  | .list xs => if st ≠ some 0 ∧ (pickL xs lo none st).length ≤ sizeLine then some (.list (pickL xs lo none st)) else none
  | _ => none
def mStep (m : M D) (ml ms : M (Option Int)) : M D := mBind m fun d => mBind ml fun l => mBind ms fun st => mOpt (dStep d l st)
variable {e : Ev} {s : St} {Y : Exn → Ev → St → Prop}
theorem run_step {Q : D → Ev → St → Prop} (h : RunX Y m e s fun d e1 s1 => RunX Y ml e1 s1 fun l e2 s2 => RunX Y ms e2 s2 fun st e3 s3 => ∃ c, dStep d l st = some c ∧ Q c e3 s3) : RunX Y (mStep m ml ms) e s Q := run_bind (h.mono fun _ _ _ h => run_bind (h.mono fun _ _ _ h => run_bind (h.mono fun _ _ _ h => run_opt h)))
instance {Q : D → Ev → St → Prop} : Step (RunX Y (mStep m ml ms) e s Q) (RunX Y m e s fun d e1 s1 => RunX Y ml e1 s1 fun l e2 s2 => RunX Y ms e2 s2 fun st e3 s3 => ∃ c, dStep d l st = some c ∧ Q c e3 s3) := ⟨run_step⟩
end
end Ds
namespace L2
open PySem PySem.Spec PyProof.Rows
def mergeT (kvs more : List (List Key × V)) : List (List Key × V) := more.foldl (fun acc kv => putK acc kv.1 kv.2) kvs
theorem KT.merge {H : Hp} : ∀ {more : List (List Key × V)} {rs : List (List Key × Addr × Value)} {kvs : List (List Key × V)} {vs : List (List Key × Addr × Value)}, KT H more rs → KT H kvs vs → KT H (mergeT kvs more) (storedAllH vs rs) := by
  intro more rs kvs vs r
  unfold KT at r
  induction r generalizing kvs vs with
  | nil => intro q; exact q
  | @cons p q ps qs h t ih =>
    intro k
    obtain ⟨h1, h2, h3⟩ := h
    have := ih (KT.put k p.1 h2 h3)
    unfold mergeT storedAllH at this ⊢
    rw [List.foldl_cons, List.foldl_cons, ← h1]
    exact this
end L2
namespace Ds
open PySem PySem.Spec PyProof.Rows L2 Dn
section
variable {X : Cx} {E : XQ} {o e f : Expr} {pos : Pos} {m mk : M D} {mc : M Cl} {ml : M Nat}
def pairT : List D → Option (List (List Key × Cl))
  | [] => some []
  | .tuple [k, v] :: r => match toTK k, pairT r with
    | some k', some t => some ((k', .sh v) :: t)
    | _, _ => none
  | _ :: _ => none
def mDictTP (m : M D) : M Nat := mBind m fun d => match d with
  | .list xs => mBind (mOpt (pairT xs)) fun cs => mAll (.dt (mergeC [] cs))
  | _ => fun _ => .bad
/-- d.setdefault(k, x) -/
def mTSetD (ml : M Nat) (mk : M D) (mc : M Cl) : M Cl := mBind ml fun l => mBind (isDt l) fun l => mBind mk fun e => mBind mc fun z δ => match δ.s[l]?, toTK e with
  | some (.dt kvs), some k => if kvs.length < sizeLine then (match valC kvs k with
    | some c => .ok c δ
    | none => .ok z ⟨δ.e, δ.s.set l (.dt (putC kvs k z))⟩) else .bad
  | _, _ => .bad
end
section
variable {e : Ev} {s : St} {m mk : M D} {mc : M Cl} {ml : M Nat} {Y : Exn → Ev → St → Prop}
theorem run_dictTP {Q : Nat → Ev → St → Prop} (h : RunX Y m e s fun d e1 s1 => ∃ xs cs, d = .list xs ∧ pairT xs = some cs ∧ Q s1.length e1 (s1 ++ [.dt (mergeC [] cs)])) : RunX Y (mDictTP m) e s Q := run_bind (h.mono fun d _ _ ⟨xs, cs, h1, h2, h3⟩ => by
  subst h1
  exact run_optB ⟨cs, h2, Run.i h3⟩)
instance {Q : Nat → Ev → St → Prop} : Step (RunX Y (mDictTP m) e s Q) (RunX Y m e s fun d e1 s1 => ∃ xs cs, d = .list xs ∧ pairT xs = some cs ∧ Q s1.length e1 (s1 ++ [.dt (mergeC [] cs)])) := ⟨run_dictTP⟩
theorem run_tsetd {Q : Cl → Ev → St → Prop} (h : RunX Y ml e s fun l e1 s1 => ∃ k0, tkAt s1 l = some k0 ∧ RunX Y mk e1 s1 fun d e2 s2 => RunX Y mc e2 s2 fun z e3 s3 => ∃ kvs k, s3[l]? = some (.dt kvs) ∧ toTK d = some k ∧ kvs.length < sizeLine ∧ (∀ c, valC kvs k = some c → Q c e3 s3) ∧ (valC kvs k = none → Q z e3 (s3.set l (.dt (putC kvs k z))))) : RunX Y (mTSetD ml mk mc) e s Q :=
  run_bind (h.mono fun l _ _ ⟨k0, h0, h⟩ => run_bind (run_isDt ⟨k0, h0, run_bind (h.mono fun d _ _ h => run_bind (h.mono fun z _ s3 ⟨kvs, k, h1, h2, h3, h4, h5⟩ => Run.i (by
    dsimp only
    rw [h1, h2]
    dsimp only
    rw [if_pos h3]
    cases q : valC kvs k with
    | some c => exact h4 c q
    | none => exact h5 q)))⟩))
instance {Q : Cl → Ev → St → Prop} : Step (RunX Y (mTSetD ml mk mc) e s Q) (RunX Y ml e s fun l e1 s1 => ∃ k0, tkAt s1 l = some k0 ∧ RunX Y mk e1 s1 fun d e2 s2 => RunX Y mc e2 s2 fun z e3 s3 => ∃ kvs k, s3[l]? = some (.dt kvs) ∧ toTK d = some k ∧ kvs.length < sizeLine ∧ (∀ c, valC kvs k = some c → Q c e3 s3) ∧ (valC kvs k = none → Q z e3 (s3.set l (.dt (putC kvs k z))))) := ⟨run_tsetd⟩
end
end Ds
namespace Ds
open PySem PySem.Spec PyProof.Rows L2 Dn
section
variable {X : Cx} {E : XQ} {o e f : Expr} {pos : Pos} {m mk mi : M D} {mc : M Cl} {ml : M Nat}
def mDSetD (ml : M Nat) (mk : M D) (mc : M Cl) : M Cl := mBind ml fun l => mBind (isDk l) fun l => mBind mk fun e => mBind mc fun z δ => match δ.s[l]?, toK e with
  | some (.dk kvs), some k => if kvs.length < sizeLine then (match valC kvs k with
    | some c => .ok c δ
    | none => .ok z ⟨δ.e, δ.s.set l (.dk (putC kvs k z))⟩) else .bad
  | _, _ => .bad
/-- l.insert(i, x) -/
def mIns (ml : M Nat) (mi : M D) (mc : M Cl) : M Fl := mBind (mIsL ml) fun l => mBind mi fun d => mBind mc fun c δ => match δ.s[l]?, d with
  | some (.lst xs), .int i => if xs.length < sizeLine ∧ 0 ≤ i ∧ i < 2 ^ 63 then .ok .nx ⟨δ.e, δ.s.set l (.lst (xs.take i.toNat ++ [c] ++ xs.drop i.toNat))⟩ else .bad
  | _, _ => .bad
end
section
variable {X : Cx} {E : XQ} {e : Expr} {pos : Pos} {ml : M Nat}
def lenOf : Option Ob → Option Nat
  | some (.dk kvs) => some kvs.length
  | some (.dt kvs) => some kvs.length
  | _ => none
def mLenD (ml : M Nat) : M D := mBind ml fun l δ => match δ.s[l]? with
  | some (.dk kvs) => .ok (.int kvs.length) δ
  | some (.dt kvs) => .ok (.int kvs.length) δ
  | _ => .bad
end
section
variable {e : Ev} {s : St} {m mk mi : M D} {mc : M Cl} {ml : M Nat} {Y : Exn → Ev → St → Prop}
theorem run_dsetd {Q : Cl → Ev → St → Prop} (h : RunX Y ml e s fun l e1 s1 => ∃ k0, s1[l]? = some (.dk k0) ∧ RunX Y mk e1 s1 fun d e2 s2 => RunX Y mc e2 s2 fun z e3 s3 => ∃ kvs k, s3[l]? = some (.dk kvs) ∧ toK d = some k ∧ kvs.length < sizeLine ∧ (∀ c, valC kvs k = some c → Q c e3 s3) ∧ (valC kvs k = none → Q z e3 (s3.set l (.dk (putC kvs k z))))) : RunX Y (mDSetD ml mk mc) e s Q :=
  run_bind (h.mono fun l _ _ ⟨k0, h0, h⟩ => run_bind (run_isDk ⟨k0, h0, run_bind (h.mono fun d _ _ h => run_bind (h.mono fun z _ s3 ⟨kvs, k, h1, h2, h3, h4, h5⟩ => Run.i (by
    dsimp only
    rw [h1, h2]
    dsimp only
    rw [if_pos h3]
    cases q : valC kvs k with
    | some c => exact h4 c q
    | none => exact h5 q)))⟩))
instance {Q : Cl → Ev → St → Prop} : Step (RunX Y (mDSetD ml mk mc) e s Q) (RunX Y ml e s fun l e1 s1 => ∃ k0, s1[l]? = some (.dk k0) ∧ RunX Y mk e1 s1 fun d e2 s2 => RunX Y mc e2 s2 fun z e3 s3 => ∃ kvs k, s3[l]? = some (.dk kvs) ∧ toK d = some k ∧ kvs.length < sizeLine ∧ (∀ c, valC kvs k = some c → Q c e3 s3) ∧ (valC kvs k = none → Q z e3 (s3.set l (.dk (putC kvs k z))))) := ⟨run_dsetd⟩
theorem run_lenDk {Q : D → Ev → St → Prop} (h : RunX Y ml e s fun l e1 s1 => ∃ n : Nat, lenOf (s1[l]?) = some n ∧ Q (.int n) e1 s1) : RunX Y (mLenD ml) e s Q := run_bind (h.mono fun l _ s1 ⟨n, h1, h2⟩ => Run.i (by
    dsimp only
    cases q : s1[l]? with
    | none => rw [q] at h1; cases h1
    | some o =>
      rw [q] at h1
      cases o with
      | dk kvs => cases h1; exact h2
      | dt kvs => cases h1; exact h2
      | _ => cases h1))
instance {Q : D → Ev → St → Prop} : Step (RunX Y (mLenD ml) e s Q) (RunX Y ml e s fun l e1 s1 => ∃ n : Nat, lenOf (s1[l]?) = some n ∧ Q (.int n) e1 s1) := ⟨run_lenDk⟩
theorem run_ins {Q : Fl → Ev → St → Prop} (h : RunX Y ml e s fun l e1 s1 => ∃ x0, s1[l]? = some (.lst x0) ∧ RunX Y mi e1 s1 fun d e2 s2 => RunX Y mc e2 s2 fun c e3 s3 => ∃ xs i, s3[l]? = some (.lst xs) ∧ d = .int i ∧ (xs.length < sizeLine ∧ 0 ≤ i ∧ i < 2 ^ 63) ∧ Q .nx e3 (s3.set l (.lst (xs.take i.toNat ++ [c] ++ xs.drop i.toNat)))) : RunX Y (mIns ml mi mc) e s Q :=
  run_bind (run_bind (h.mono fun l _ _ ⟨x0, h0, h⟩ => run_isLst ⟨x0, h0, run_bind (h.mono fun d _ _ h => run_bind (h.mono fun c _ _ ⟨xs, i, h1, h2, h3, h4⟩ => Run.i (by
    subst h2
    dsimp only
    rw [h1]
    dsimp only
    rw [if_pos h3]
    exact h4)))⟩))
instance {Q : Fl → Ev → St → Prop} : Step (RunX Y (mIns ml mi mc) e s Q) (RunX Y ml e s fun l e1 s1 => ∃ x0, s1[l]? = some (.lst x0) ∧ RunX Y mi e1 s1 fun d e2 s2 => RunX Y mc e2 s2 fun c e3 s3 => ∃ xs i, s3[l]? = some (.lst xs) ∧ d = .int i ∧ (xs.length < sizeLine ∧ 0 ≤ i ∧ i < 2 ^ 63) ∧ Q .nx e3 (s3.set l (.lst (xs.take i.toNat ++ [c] ++ xs.drop i.toNat)))) := ⟨run_ins⟩
end
end Ds
namespace Ds
open PySem PySem.Spec PyProof.Rows L2 Dn
def ixF : List D → D → Nat → Option Nat
  | [], _, _ => none
  | z :: zs, d, n => if PyData.eqv z d = true then some n else ixF zs d (n + 1)
section
variable {X : Cx} {E : XQ} {o e f : Expr} {pos : Pos} {m mk mi : M D} {mc : M Cl} {ml : M Nat}
def mIdxL (ml : M Nat) (mi : M D) : M D := mBind (mIsL ml) fun l => mBind mi fun d δ => match snap δ.s (.lo l) with
  | some (.list ds) => if SeqAt.shaped (.list ds) = true ∧ SeqAt.shaped d = true then (match ixF ds d 0 with
    | some j => .ok (.int ((j : Nat) : Int)) δ
    | none => .bad) else .bad
  | _ => .bad
/-- d.pop(k) -/
def mDPop1 (ml : M Nat) (mk : M D) : M Cl := mBind ml fun l => mBind (isDk l) fun l => mBind mk fun e δ => match δ.s[l]?, toK e with
  | some (.dk kvs), some k => match valC kvs k with
    | some c => .ok c ⟨δ.e, δ.s.set l (.dk (dropC kvs k))⟩
    | none => .bad
  | _, _ => .bad
end
section
variable {e : Ev} {s : St} {m mk mi : M D} {mc : M Cl} {ml : M Nat} {Y : Exn → Ev → St → Prop}
theorem run_idxL {Q : D → Ev → St → Prop} (h : RunX Y ml e s fun l e1 s1 => ∃ x0, s1[l]? = some (.lst x0) ∧ RunX Y mi e1 s1 fun d e2 s2 => ∃ ds j, snap s2 (.lo l) = some (.list ds) ∧ SeqAt.shaped (.list ds) = true ∧ SeqAt.shaped d = true ∧ ixF ds d 0 = some j ∧ Q (.int ((j : Nat) : Int)) e2 s2) : RunX Y (mIdxL ml mi) e s Q :=
  run_bind (run_bind (h.mono fun l _ _ ⟨x0, h0, h⟩ => run_isLst ⟨x0, h0, run_bind (h.mono fun d _ _ ⟨ds, j, h1, h2, h3, h4, h5⟩ => Run.i (by
    dsimp only
    rw [h1]
    dsimp only
    rw [if_pos ⟨h2, h3⟩, h4]
    exact h5))⟩))
instance {Q : D → Ev → St → Prop} : Step (RunX Y (mIdxL ml mi) e s Q) (RunX Y ml e s fun l e1 s1 => ∃ x0, s1[l]? = some (.lst x0) ∧ RunX Y mi e1 s1 fun d e2 s2 => ∃ ds j, snap s2 (.lo l) = some (.list ds) ∧ SeqAt.shaped (.list ds) = true ∧ SeqAt.shaped d = true ∧ ixF ds d 0 = some j ∧ Q (.int ((j : Nat) : Int)) e2 s2) := ⟨run_idxL⟩
theorem run_dpop1 {Q : Cl → Ev → St → Prop} (h : RunX Y ml e s fun l e1 s1 => ∃ k0, s1[l]? = some (.dk k0) ∧ RunX Y mk e1 s1 fun d e2 s2 => ∃ kvs k c, s2[l]? = some (.dk kvs) ∧ toK d = some k ∧ valC kvs k = some c ∧ Q c e2 (s2.set l (.dk (dropC kvs k)))) : RunX Y (mDPop1 ml mk) e s Q :=
  run_bind (h.mono fun l _ _ ⟨k0, h0, h⟩ => run_bind (run_isDk ⟨k0, h0, run_bind (h.mono fun d _ s2 ⟨kvs, k, c, h1, h2, h3, h4⟩ => Run.i (by
    dsimp only
    rw [h1, h2]
    dsimp only
    rw [h3]
    exact h4))⟩))
instance {Q : Cl → Ev → St → Prop} : Step (RunX Y (mDPop1 ml mk) e s Q) (RunX Y ml e s fun l e1 s1 => ∃ k0, s1[l]? = some (.dk k0) ∧ RunX Y mk e1 s1 fun d e2 s2 => ∃ kvs k c, s2[l]? = some (.dk kvs) ∧ toK d = some k ∧ valC kvs k = some c ∧ Q c e2 (s2.set l (.dk (dropC kvs k)))) := ⟨run_dpop1⟩
end
def snapD (s : List Ob) : Cl → Option D
  | .tp cs => (snaps s cs).map PyData.tuple
  | .sh d => some d
  | .lo l => snap s (.lo l)
  | .no => none
section
variable {X : Cx} {E : XQ} {a b : Expr} {pos : Pos} {mc mk : M Cl}
def mBinD (f : D → D → Option D) (mc mk : M Cl) : M D := mBind mc fun c => mBind mk fun k δ => match (snapD δ.s c).bind fun d => (snapD δ.s k).bind fun e => f d e with
  | some d => if flatD d = true then .ok d δ else .bad
  | none => .bad
end
section
variable {e : Ev} {s : St} {Y : Exn → Ev → St → Prop}
theorem run_binD {g : D → D → Option D} {mc mk : M Cl} {Q : D → Ev → St → Prop} (h : RunX Y mc e s fun c e1 s1 => RunX Y mk e1 s1 fun k e2 s2 => ∃ a b, snapD s2 c = some a ∧ snapD s2 k = some b ∧ ∃ r, g a b = some r ∧ flatD r = true ∧ Q r e2 s2) : RunX Y (mBinD g mc mk) e s Q :=
  run_bind (h.mono fun _ _ _ h => run_bind (h.mono fun _ _ _ ⟨a, b, h1, h2, r, h3, h4, h5⟩ => Run.i (by
    dsimp only
    rw [h1, h2, Option.bind_some, Option.bind_some, h3]
    dsimp only
    rw [if_pos h4]
    exact h5)))
instance {g : D → D → Option D} {mc mk : M Cl} {Q : D → Ev → St → Prop} : Step (RunX Y (mBinD g mc mk) e s Q) (RunX Y mc e s fun c e1 s1 => RunX Y mk e1 s1 fun k e2 s2 => ∃ a b, snapD s2 c = some a ∧ snapD s2 k = some b ∧ ∃ r, g a b = some r ∧ flatD r = true ∧ Q r e2 s2) := ⟨run_binD⟩
end
end Ds
namespace Ds
open PySem PySem.Spec PyProof.Rows L2 Dn
section
variable {X : Cx} {E : XQ} {o v : Expr} {lo hi : Option Expr} {p2 p' pos : Pos} {ml : M Nat} {m1 m2 : M (Option Int)} {mv : M D}
/-- y[a:c] = x, y a list of the store -/
def mSetCut (ml : M Nat) (m1 m2 : M (Option Int)) (mv : M D) : M Fl := mBind mv fun d => mBind ml fun l => mBind m1 fun a => mBind m2 fun c => fun δ => match δ.s[l]?, d, a, c with
  | some (.lst xs), .list ys, some i, some j => if 0 ≤ i ∧ i ≤ j ∧ i ≤ (xs.length : Int) ∧ xs.length + ys.length ≤ sizeLine then .ok .nx ⟨δ.e, δ.s.set l (.lst (xs.take i.toNat ++ ys.map Cl.sh ++ xs.drop j.toNat))⟩ else .bad
  | _, _, _, _ => .bad
end
end Ds
namespace Ds
open PySem PySem.Spec PyProof.Rows L2 Dn
def ixR (n h : Nat) : List Nat := (List.range (n - 1 - h)).map fun m => n - 1 - m
def pickR {α : Type} (xs : List α) (h : Nat) : List α := (ixR xs.length h).filterMap (xs[·]?)
section
variable {X : Cx} {E : XQ} {e eh es : Expr} {te : TE} {tu ts : TO} {p2 pos : Pos} {m : M D} {mu ms : M (Option Int)}
def dRevT (d : D) (h st : Option Int) : Option D := match d, h, st with
  | .tuple xs, some i, some j => if 0 ≤ i ∧ j = -1 then some (.tuple (pickR xs i.toNat)) else none
  | _, _, _ => none
/-- t[:h:-1] -/
def mRevT (m : M D) (mu ms : M (Option Int)) : M D := mBind m fun d => mBind mu fun h => mBind ms fun st => mOpt (dRevT d h st)
variable {e : Ev} {s : St} {Y : Exn → Ev → St → Prop}
theorem run_revT {Q : D → Ev → St → Prop} (h : RunX Y m e s fun d e1 s1 => RunX Y mu e1 s1 fun l e2 s2 => RunX Y ms e2 s2 fun st e3 s3 => ∃ c, dRevT d l st = some c ∧ Q c e3 s3) : RunX Y (mRevT m mu ms) e s Q := run_bind (h.mono fun _ _ _ h => run_bind (h.mono fun _ _ _ h => run_bind (h.mono fun _ _ _ h => run_opt h)))
instance {Q : D → Ev → St → Prop} : Step (RunX Y (mRevT m mu ms) e s Q) (RunX Y m e s fun d e1 s1 => RunX Y mu e1 s1 fun l e2 s2 => RunX Y ms e2 s2 fun st e3 s3 => ∃ c, dRevT d l st = some c ∧ Q c e3 s3) := ⟨run_revT⟩
variable {ml : M Nat} {m1 m2 : M (Option Int)} {mv : M D}
theorem run_setCut {Q : Fl → Ev → St → Prop} (h : RunX Y mv e s fun d e1 s1 => RunX Y ml e1 s1 fun l e2 s2 => RunX Y m1 e2 s2 fun a e3 s3 => RunX Y m2 e3 s3 fun c e4 s4 => ∃ xs ys i j, s4[l]? = some (.lst xs) ∧ d = .list ys ∧ a = some i ∧ c = some j ∧ (0 ≤ i ∧ i ≤ j ∧ i ≤ (xs.length : Int) ∧ xs.length + ys.length ≤ sizeLine) ∧ Q .nx e4 (s4.set l (.lst (xs.take i.toNat ++ ys.map Cl.sh ++ xs.drop j.toNat)))) : RunX Y (mSetCut ml m1 m2 mv) e s Q :=
  run_bind (h.mono fun d _ _ h => run_bind (h.mono fun l _ _ h => run_bind (h.mono fun a _ _ h => run_bind (h.mono fun c e4 s4 h => by
    obtain ⟨xs, ys, i, j, h1, rfl, rfl, rfl, h5, h6⟩ := h
    refine Run.i ?_
    simp only [h1, if_pos h5]
    exact h6))))
instance {Q : Fl → Ev → St → Prop} : Step (RunX Y (mSetCut ml m1 m2 mv) e s Q) (RunX Y mv e s fun d e1 s1 => RunX Y ml e1 s1 fun l e2 s2 => RunX Y m1 e2 s2 fun a e3 s3 => RunX Y m2 e3 s3 fun c e4 s4 => ∃ xs ys i j, s4[l]? = some (.lst xs) ∧ d = .list ys ∧ a = some i ∧ c = some j ∧ (0 ≤ i ∧ i ≤ j ∧ i ≤ (xs.length : Int) ∧ xs.length + ys.length ≤ sizeLine) ∧ Q .nx e4 (s4.set l (.lst (xs.take i.toNat ++ ys.map Cl.sh ++ xs.drop j.toNat)))) := ⟨run_setCut⟩
end
end Ds
namespace Ds
open PySem PySem.Spec PyProof.Rows L2 Dn
/-- at a: an error of the class at D: without own __init__, or with its dict -/
def Held (D a : Addr) (h : Hp) : Prop := h a = some (ExO (.ref D) a) ∨ ∃ (dx : Addr) (fs : List (Str × V)), h a = some (exo a D (some dx)) ∧ h dx = some (exd dx fs)
theorem Held.ex {D a : Addr} {H H' : Hp} (e : Ex H H') (h : Held D a H) : Held D a H' := by
  rcases h with h | ⟨dx, fs, h1, h2⟩
  · exact .inl (e _ _ h)
  · exact .inr ⟨dx, fs, e _ _ h1, e _ _ h2⟩
end Ds
namespace Ds
open PySem PySem.Spec PyProof.Rows L2 Dn
structure MadeF (Cs : List Addr) (l : Addr) (as : List Addr) (dx : Addr) (n : Int) (h : Hp) : Prop where
  li : h l = some (.lst (as.map V.ref))
  he : ∀ (j : Nat) (a C : Addr), as[j]? = some a → Cs[j]? = some C → Held C a h
  nu : ∀ a C, as[5]? = some a → Cs[5]? = some C → h a = some (exo a C (some dx)) ∧ h dx = some (exd dx [(("number" : Str), V.int n)])
theorem MadeF.ex {Cs : List Addr} {l : Addr} {as : List Addr} {dx : Addr} {n : Int} {H H' : Hp} (e : Ex H H') (h : MadeF Cs l as dx n H) : MadeF Cs l as dx n H' :=
  ⟨e _ _ h.li, fun j a C h1 h2 => (h.he j a C h1 h2).ex e, fun a C h1 h2 => ⟨e _ _ (h.nu a C h1 h2).1, e _ _ (h.nu a C h1 h2).2⟩⟩
end Ds
namespace Ds
open PySem PySem.Spec PyProof.Rows L2 Dn
def rRepN (K : Frag) : R2 := fun x y H Q => rRepO K x y H Q ∨ rRepT K x y H Q
theorem op_repN {X : Cx} : OpR X (binaryOp .Mult) (rRepN X.K) := op_repO.or op_repT
def dMulN (a b : D) : Option D := match dMulO a b with
  | some d => some d
  | none => dMulT a b
theorem os_mulN {K : Frag} : OpS K (rRepN K) dMulN := fun Hs H x y d e c Q ex rx ry hg k => by
  unfold dMulN at hg
  split at hg
  · rename_i z h
    cases hg
    exact .inl (os_mulO Hs H x y d e c Q ex rx ry h k)
  · exact .inr (os_mulT Hs H x y d e c Q ex rx ry hg k)
theorem mulN_one {d : D} {n : Nat} (h : n ≤ 1000) : dMulN (.tuple [d]) (.int (n : Int)) = some (.tuple (List.replicate n d)) := by
  unfold dMulN
  match n, h with
  | 0, _ => rfl
  | 1, _ => rfl
  | n + 2, h =>
    have h1 : dMulO (.tuple [d]) (.int ((n + 2 : Nat) : Int)) = none := by
      show (if [d] ≠ [] ∧ ((n + 2 : Nat) : Int) = 1 then some (PyData.tuple [d]) else if [d] ≠ [] ∧ ((n + 2 : Nat) : Int) = 0 then some (.tuple []) else none) = none
      rw [if_neg (fun z => by have := z.2; omega), if_neg (fun z => by have := z.2; omega)]
    rw [h1]
    dsimp only
    show (if [d] ≠ [] ∧ 2 ≤ ((n + 2 : Nat) : Int) ∧ ((n + 2 : Nat) : Int) ≤ 1000 ∧ [d].length ≤ 1000 then some (PyData.tuple (List.replicate ((n + 2 : Nat) : Int).toNat [d]).flatten) else none) = _
    rw [if_pos ⟨by simp, by omega, by omega, by simp⟩]
    have : ((n + 2 : Nat) : Int).toNat = n + 2 := by omega
    rw [this]
    congr 2
    clear h1 this h
    generalize n + 2 = m
    induction m with
    | zero => rfl
    | succ m ih => rw [List.replicate_succ, List.replicate_succ, List.flatten_cons, ih]; rfl
end Ds
namespace Ds
open PySem PySem.Spec PyProof.Rows L2 Dn
theorem fnX_bad {P : Program} {w : World} {K : Frag} {mg : Str → Option Value} {base : Heap} {k n : Nat} {f : Addr} {fd : FuncData} {pr : List Str} (hn : pr.length = n) : FnOk P w K mg base (L2.CX P w) k f fd pr (spX K n fun _ _ => .bad) :=
  ⟨fun vs H Q E h => by rw [h.1, hn], fun A outer s H args us vs Q E _ _ _ _ h => by
    obtain ⟨_, _, _, _, _, _, _, h⟩ := h
    exact h.elim⟩
def noE : XK := fun _ _ _ => False
theorem takesE {X : Cx} : Takes X (wX X.K (xqOf X.K noE)) := takes0.imp fun c d σ H h => by
  obtain ⟨y, h1, h2⟩ := h
  exact h2 _ _ h1
theorem noE_of {K : Frag} {m : M Cl} {σ : L2.St} {H : Hp} {Q : VK} (h : tOfC K noX m σ H Q) : tOfC K (xqOf K noE) m σ H Q := by
  obtain ⟨G, g, δ, re, po⟩ := h
  refine ⟨G, g, δ, re, ?_⟩
  cases q : m δ with
  | ok a δ' => rw [q] at po; exact po
  | exc y δ' =>
    rw [q] at po
    exact fun g' H' e r => (po g' H' e r).elim
  | bad => rw [q] at po; exact po
section
variable {X : Cx} {F : Fn} {as : List (M Cl)} {k n : Nat} {C : Addr} {fd : FuncData} {pr : List Str} {m c : Str} {e o : Expr} {es : List Expr} {pos apos : Pos} {fa : Addr} {ml : M Nat}
theorem jc_methXn {pl : Sem Bool} (hC : clsA X.K c = some C) (k0 : Cls X.K C) (hM : Meth X.K C m fa) (G : FnOk X.prog X.w X.K X.mg X.base (L2.CX X.prog X.w) k fa fd pr (spX X.K n F)) (hn : as.length + 1 = n) (hr : Room k X.A) (hb : Binds X.K fd pr []) (ho : PE X o (tOfL X.K (xqOf X.K noE) ml)) (ha : PA X (e :: es) (tOfA X.K (xqOf X.K noE) (evA as)))
    (hst : starEach (e :: es) X.env = (false, eval e X.env) :: starEach es X.env := by rfl) (hpl : (backTo pos (starEach es X.env)).any (·.1) = false := by rfl)
    (ht : eval (.Call (.Attribute o m apos) (e :: es) [] pos) X.env = (do
      let ov ← eval o X.env
      standAt apos.atName
      let (f, first) ← holding [ov] (getMethod ov m pl)
      callWith pos f first (backTo pos (starEach (e :: es) X.env)) (backToKw pos (keywordEach [] X.env))) := by rfl) : PE X (.Call (.Attribute o m apos) (e :: es) [] pos) (tOfC X.K noX (mMethX c m F ml as)) :=
  pe_imp (jc_methX (E0 := noE) takesE hC k0 hM G hn hr hb ho ha hst hpl ht) fun _ _ _ h => noE_of h
end
end Ds
namespace TZ
open PySem RZ
open PySem.Sem (wp)
open PySem.W
section
variable {prog : Program} {w : World} {A : Around} {E : Value → Shared → Prop} {s : Shared}
theorem zipT_item_held {z TI TO T i1 i2 l1 l2 : Addr} {f : Bool} {oT : Obj} {k1 k2 : Nat} {xs ys : Array Value} {x y : Value} {Q : Value → Shared → Prop} (D : ZipApart z TI TO i1 i2 l1 l2)
    (hz : IsZipHeld s.heap z TI TO T f) (hT : s.heap.get? T = some oT) (hTI : IsPair s.heap TI (.ref i1) (.ref i2))
    (h1 : s.heap.IsTupleIter i1 l1 k1) (h2 : s.heap.IsTupleIter i2 l2 k2) (hl1 : s.heap.IsTuple l1 xs) (hl2 : s.heap.IsTuple l2 ys) (hx : xs[k1]? = some x) (hy : ys[k2]? = some y)
    (hQ : ∀ h', IsZipHeld h' z TI TO T true → h'.IsTupleIter i1 l1 (k1 + 1) → h'.IsTupleIter i2 l2 (k2 + 1) → IsPair h' s.heap.objs.size x y → h'.objs.size = s.heap.objs.size + 1 →
      (∀ c o, c ≠ z → c ≠ i1 → c ≠ i2 → s.heap.get? c = some o → h'.get? c = some o) → Q (.ref s.heap.objs.size) { s with heap := h' }) :
    wpAny (model prog w) A (Builtin.«zip.__next__» ⟨[.ref z], []⟩) (fun fin s' => ∃ v, fin = .done (.ret v) ∧ Q v s') E s := by
  show wpAny _ _ (field (.ref z) 2 >>= _) _ _ _
  refine wpAny_bind (wpAny_field hz rfl (x := .bool false) rfl ?_)
  show wpAny _ _ (field (.ref z) 3 >>= _) _ _ _
  refine wpAny_bind (wpAny_field hz rfl (x := .ref TI) rfl ?_)
  refine wpAny_bind (wpAny_seqItems hTI rfl ?_)
  show wpAny _ _ (Builtin.SmallTypes.ownedTupleIsFree (.ref z) >>= _) _ _ _
  refine wpAny_bind (wpAny_tupleHeld_zip hz hT fun h₁ hz₁ hs₁ => ?_)
  simp only [Bool.false_eq_true, if_false]
  refine wpAny_bind ?_
  rw [← Array.forIn_toList]
  simp only [List.forIn_cons, List.forIn_nil]
  refine wpAny_bind (wpAny_bind (wpAny_holding ?_))
  show wpAny _ _ (Builtin.SmallTypes.nextOf (.ref i1) >>= _) _ _ _
  refine wpAny_bind (nextOf_tuple_item (s := { s with heap := h₁ }) (h1.extBut hs₁.extBut D.i1z) (hl1.extBut hs₁.extBut D.l1z) hx fun h₂ h1₂ hs₂ => wpAny_pure ?_)
  refine wpAny_pure ?_
  refine wpAny_bind (wpAny_bind (wpAny_holding ?_))
  show wpAny _ _ (Builtin.SmallTypes.nextOf (.ref i2) >>= _) _ _ _
  refine wpAny_bind (nextOf_tuple_item (s := { s with heap := h₂ }) ((h2.extBut hs₁.extBut D.i2z).extBut hs₂.extBut D.i12.symm) ((hl2.extBut hs₁.extBut D.l2z).extBut hs₂.extBut D.l2i1) hy fun h₃ h2₃ hs₃ => wpAny_pure ?_)
  refine wpAny_pure (wpAny_pure ?_)
  show wpAny _ _ (newTuple [x, y] >>= _) _ _ _
  refine wpAny_bind (wpAny_newTuple ?_)
  have hsz : h₃.objs.size = s.heap.objs.size := by rw [hs₃.1, hs₂.1, hs₁.1]
  have hz₃ : IsZipHeld h₃ z TI TO T true := hs₃.extBut _ _ D.i2z.symm (hs₂.extBut _ _ D.i1z.symm hz₁)
  have hk : ∀ c o, c ≠ z → c ≠ i1 → c ≠ i2 → s.heap.get? c = some o → h₃.get? c = some o := fun c o c1 c2 c3 e => hs₃.extBut _ _ c3 (hs₂.extBut _ _ c2 (hs₁.extBut _ _ c1 e))
  have h1₃ : h₃.IsTupleIter i1 l1 (k1 + 1) := h1₂.extBut hs₃.extBut D.i12
  refine wpAny_pure ⟨_, rfl, ?_⟩
  show Q (.ref h₃.objs.size) _
  have hp : IsPair (h₃.push { cls := .type "tuple", data := .seq #[x, y] }) h₃.objs.size x y := Heap.get?_push_size _ rfl
  have hz4 : (h₃.push { cls := .type "tuple", data := .seq #[x, y] }).objs.size = h₃.objs.size + 1 := Heap.size_push ..
  rw [hsz] at hp hz4 ⊢
  exact hQ _ (Heap.get?_push_of_some _ hz₃) (h1₃.at fun o e => Heap.get?_push_of_some _ e) (h2₃.at fun o e => Heap.get?_push_of_some _ e) hp hz4 fun c o c1 c2 c3 e => Heap.get?_push_of_some _ (hk c o c1 c2 c3 e)
theorem zipT_end_held {z TI TO T i1 i2 l1 l2 : Addr} {f : Bool} {oT : Obj} {k1 k2 : Nat} {xs ys : Array Value} {Q : Fin → Shared → Prop} (hh : A.handled = none) (D : ZipApart z TI TO i1 i2 l1 l2)
    (hz : IsZipHeld s.heap z TI TO T f) (hT : s.heap.get? T = some oT) (hTI : IsPair s.heap TI (.ref i1) (.ref i2))
    (h1 : s.heap.IsTupleIter i1 l1 k1) (h2 : s.heap.IsTupleIter i2 l2 k2) (hl1 : s.heap.IsTuple l1 xs) (hl2 : s.heap.IsTuple l2 ys) (hend : xs[k1]? = none ∨ ys[k2]? = none)
    (hE : ∀ h' e, (∀ c o, c ≠ z → c ≠ i1 → c ≠ i2 → s.heap.get? c = some o → h'.get? c = some o) → (∃ o, h'.get? e = some o ∧ o.cls = .type "StopIteration") → E (.ref e) { s with heap := h' }) :
    wpAny (model prog w) A (Builtin.«zip.__next__» ⟨[.ref z], []⟩) Q E s := by
  show wpAny _ _ (field (.ref z) 2 >>= _) _ _ _
  refine wpAny_bind (wpAny_field hz rfl (x := .bool false) rfl ?_)
  show wpAny _ _ (field (.ref z) 3 >>= _) _ _ _
  refine wpAny_bind (wpAny_field hz rfl (x := .ref TI) rfl ?_)
  refine wpAny_bind (wpAny_seqItems hTI rfl ?_)
  show wpAny _ _ (Builtin.SmallTypes.ownedTupleIsFree (.ref z) >>= _) _ _ _
  refine wpAny_bind (wpAny_tupleHeld_zip hz hT fun h₁ hz₁ hs₁ => ?_)
  simp only [Bool.false_eq_true, if_false]
  refine wpAny_bind ?_
  rw [← Array.forIn_toList]
  simp only [List.forIn_cons, List.forIn_nil]
  refine wpAny_bind (wpAny_bind (wpAny_holding ?_))
  show wpAny _ _ (Builtin.SmallTypes.nextOf (.ref i1) >>= _) _ _ _
  cases hx : xs[k1]? with
  | none =>
    refine wpAny_bind (nextOf_tuple_end (s := { s with heap := h₁ }) hh (h1.extBut hs₁.extBut D.i1z) (hl1.extBut hs₁.extBut D.l1z) hx fun h₂ e hs₂ he => ?_)
    exact hE h₂ e (fun c o c1 c2 _ x => hs₂ _ _ c2 (hs₁.extBut _ _ c1 x)) he
  | some x =>
    have hy : ys[k2]? = none := by rcases hend with h | h; rw [hx] at h; cases h; exact h
    refine wpAny_bind (nextOf_tuple_item (s := { s with heap := h₁ }) (h1.extBut hs₁.extBut D.i1z) (hl1.extBut hs₁.extBut D.l1z) hx fun h₂ h1₂ hs₂ => wpAny_pure ?_)
    refine wpAny_pure ?_
    refine wpAny_bind (wpAny_bind (wpAny_holding ?_))
    show wpAny _ _ (Builtin.SmallTypes.nextOf (.ref i2) >>= _) _ _ _
    refine wpAny_bind (nextOf_tuple_end (s := { s with heap := h₂ }) hh ((h2.extBut hs₁.extBut D.i2z).extBut hs₂.extBut D.i12.symm) ((hl2.extBut hs₁.extBut D.l2z).extBut hs₂.extBut D.l2i1) hy fun h₃ e hs₃ he => ?_)
    exact hE h₃ e (fun c o c1 c2 c3 x => hs₃ _ _ c3 (hs₂.extBut _ _ c2 (hs₁.extBut _ _ c1 x))) he
/-- the zip at z, so many pairs given out -/
structure ZS (z TI TO i1 i2 l1 l2 S : Addr) (h : Heap) (i : Nat) : Prop where
  st : IsZip h z TI TO .none ∨ ∃ T f oT, IsZipHeld h z TI TO T f ∧ h.get? T = some oT ∧ T ≠ z ∧ T ≠ TO ∧ T ≠ i1 ∧ T ≠ i2 ∧ T ≠ S
  hTI : IsPair h TI (.ref i1) (.ref i2)
  hTO : ∃ a b, IsPair h TO a b
  h1 : h.IsTupleIter i1 l1 i
  h2 : h.IsTupleIter i2 l2 i
structure Off (z TI TO i1 i2 l1 l2 S : Addr) : Prop where
  z : z ≠ S
  TI : TI ≠ S
  TO : TO ≠ S
  i1 : i1 ≠ S
  i2 : i2 ≠ S
  l1 : l1 ≠ S
  l2 : l2 ≠ S
variable {z TI TO i1 i2 l1 l2 S : Addr} {xs ys : Array Value} {i : Nat}
theorem ZS.keep {h h' : Heap} (st : ZS z TI TO i1 i2 l1 l2 S h i) (O : Off z TI TO i1 i2 l1 l2 S) (k : ∀ b o, b ≠ S → h.get? b = some o → h'.get? b = some o) : ZS z TI TO i1 i2 l1 l2 S h' i where
  st := by
    rcases st.st with q | ⟨T, f, oT, q, q1, a1, a2, a3, a4, a5⟩
    · exact .inl (k _ _ O.z q)
    · exact .inr ⟨T, f, oT, k _ _ O.z q, k _ _ a5 q1, a1, a2, a3, a4, a5⟩
  hTI := k _ _ O.TI st.hTI
  hTO := by obtain ⟨a, b, q⟩ := st.hTO; exact ⟨a, b, k _ _ O.TO q⟩
  h1 := st.h1.at fun o q => k _ o O.i1 q
  h2 := st.h2.at fun o q => k _ o O.i2 q
theorem next_item {x y : Value} {Q : Option Value → Shared → Prop} (D : ZipApart z TI TO i1 i2 l1 l2) (hS : S < s.heap.objs.size) (st : ZS z TI TO i1 i2 l1 l2 S s.heap i) (hl1 : s.heap.IsTuple l1 xs) (hl2 : s.heap.IsTuple l2 ys) (hx : xs[i]? = some x) (hy : ys[i]? = some y)
    (hQ : ∀ h', ZS z TI TO i1 i2 l1 l2 S h' (i + 1) → IsPair h' s.heap.objs.size x y → h'.objs.size = s.heap.objs.size + 1 → (∀ c o, c ≠ z → c ≠ TO → c ≠ i1 → c ≠ i2 → s.heap.get? c = some o → h'.get? c = some o) → Q (some (.ref s.heap.objs.size)) { s with heap := h' }) :
    wpAny (model prog w) A (pyNext (.ref z)) Q E s := by
  obtain ⟨q, hTI, ⟨a, b, hTO⟩, h1, h2⟩ := st
  rcases q with hz | ⟨T, f, oT, hz, hT, a1, a2, a3, a4, a5⟩
  · refine pyNext_zipT_item D hz hTI hTO h1 h2 hl1 hl2 hx hy fun h' z' TO' h1' h2' hT hsz hk => ?_
    have zl := Heap.lt_size hz
    have tl := Heap.lt_size hTO
    have l1 : i1 < s.heap.objs.size := by obtain ⟨_, q, _⟩ := h1; exact Heap.lt_size q
    have l2 : i2 < s.heap.objs.size := by obtain ⟨_, q, _⟩ := h2; exact Heap.lt_size q
    exact hQ h' ⟨.inr ⟨_, false, _, z', hT, Nat.ne_of_gt zl, Nat.ne_of_gt tl, Nat.ne_of_gt l1, Nat.ne_of_gt l2, Nat.ne_of_gt hS⟩, hk _ _ D.TIz D.TITO D.TIi1 D.TIi2 hTI, ⟨_, _, TO'⟩, h1', h2'⟩ hT hsz hk
  · have hTy : s.TypeIs (.ref z) "zip" := ⟨_, hz, rfl⟩
    unfold pyNext
    exact wpAny_bind (wpAny_attempt (wpAny_callSpecial?_slot (name := Str.ofString "__next__") hTy F.slot_zip_next
      (wpAny_call_entry F.slot_zip_next hTy F.entry_zip_next
        (zipT_item_held D hz hT hTI h1 h2 hl1 hl2 hx hy fun h' z' h1' h2' hP hsz hk => wpAny_pure (hQ h' ⟨.inr ⟨T, true, oT, z', hk _ _ a1 a3 a4 hT, a1, a2, a3, a4, a5⟩, hk _ _ D.TIz D.TIi1 D.TIi2 hTI, ⟨a, b, hk _ _ D.TOz D.TOi1 D.TOi2 hTO⟩, h1', h2'⟩ hP hsz fun c o c1 _ c3 c4 => hk c o c1 c3 c4)) (F.args_zip_next_1 _))))
theorem next_end {Q : Option Value → Shared → Prop} (hh : A.handled = none) (D : ZipApart z TI TO i1 i2 l1 l2) (st : ZS z TI TO i1 i2 l1 l2 S s.heap i) (hl1 : s.heap.IsTuple l1 xs) (hl2 : s.heap.IsTuple l2 ys) (hend : xs[i]? = none ∨ ys[i]? = none)
    (hQ : ∀ h', (∀ c o, c ≠ z → c ≠ TO → c ≠ i1 → c ≠ i2 → s.heap.get? c = some o → h'.get? c = some o) → Q none { s with heap := h' }) : wpAny (model prog w) A (pyNext (.ref z)) Q E s := by
  obtain ⟨q, hTI, ⟨a, b, hTO⟩, h1, h2⟩ := st
  rcases q with hz | ⟨T, f, oT, hz, hT, a1, a2, a3, a4, a5⟩
  · exact pyNext_zipT_end hh D hz hTI hTO h1 h2 hl1 hl2 hend hQ
  · have hTy : s.TypeIs (.ref z) "zip" := ⟨_, hz, rfl⟩
    unfold pyNext
    refine wpAny_bind (wpAny_attempt (wpAny_callSpecial?_slot (name := Str.ofString "__next__") hTy F.slot_zip_next
      (wpAny_call_entry F.slot_zip_next hTy F.entry_zip_next (zipT_end_held hh D hz hT hTI h1 h2 hl1 hl2 hend fun h' e hk he => ?_) (F.args_zip_next_1 _))))
    obtain ⟨o, ho, hc⟩ := he
    refine wpAny_bind (wpAny_isInstance (T := "StopIteration") (b := true) ⟨o, ho, hc⟩ isSubtype_stop ?_)
    exact wpAny_pure (hQ _ fun c o c1 _ c3 c4 => hk c o c1 c3 c4)
/-- the pairs laid so far, at Ts -/
structure Laid (N : Nat) (z TO i1 i2 S : Addr) (xs ys : Array Value) (h : Heap) (acc : Array Value) (i : Nat) (Ts : List Addr) : Prop where
  e : acc.toList = Ts.map Value.ref
  l : Ts.length = i
  nd : Ts.Nodup
  at_ : ∀ (j : Nat) (T : Addr), Ts[j]? = some T → ∃ (x y : Value), IsPair h T x y ∧ xs[j]? = some x ∧ ys[j]? = some y ∧ N ≤ T ∧ T ≠ z ∧ T ≠ TO ∧ T ≠ i1 ∧ T ≠ i2 ∧ T ≠ S
variable {N : Nat} {Ts : List Addr}
theorem Laid.nil {h : Heap} : Laid N z TO i1 i2 S xs ys h #[] 0 [] := ⟨rfl, rfl, List.nodup_nil, fun j T q => by simp at q⟩
theorem Laid.sz {h : Heap} {acc : Array Value} (L : Laid N z TO i1 i2 S xs ys h acc i Ts) : acc.size = i := by
  have := congrArg List.length L.e
  rw [List.length_map, L.l] at this
  simpa using this
theorem Laid.keep {h h' : Heap} {acc : Array Value} (L : Laid N z TO i1 i2 S xs ys h acc i Ts) (k : ∀ c o, c ≠ z → c ≠ TO → c ≠ i1 → c ≠ i2 → c ≠ S → h.get? c = some o → h'.get? c = some o) : Laid N z TO i1 i2 S xs ys h' acc i Ts :=
  ⟨L.e, L.l, L.nd, fun j T q => by
    obtain ⟨x, y, p, a, b, c0, c1, c2, c3, c4, c5⟩ := L.at_ j T q
    exact ⟨x, y, k _ _ c1 c2 c3 c4 c5 p, a, b, c0, c1, c2, c3, c4, c5⟩⟩
theorem Laid.push {h : Heap} {acc : Array Value} {T : Addr} {x y : Value} (L : Laid N z TO i1 i2 S xs ys h acc i Ts) (hf : T ∉ Ts) (hN : N ≤ T) (hp : IsPair h T x y) (hx : xs[i]? = some x) (hy : ys[i]? = some y) (n : T ≠ z ∧ T ≠ TO ∧ T ≠ i1 ∧ T ≠ i2 ∧ T ≠ S) : Laid N z TO i1 i2 S xs ys h (acc.push (.ref T)) (i + 1) (Ts ++ [T]) := by
  refine ⟨by rw [Array.toList_push, L.e, List.map_append]; rfl, by rw [List.length_append, L.l]; rfl, ?_, fun j T' q => ?_⟩
  · rw [List.nodup_append]
    exact ⟨L.nd, by simp, fun a ha b hb e => hf (by simp at hb; rw [← hb, ← e]; exact ha)⟩
  · by_cases hj : j < Ts.length
    · rw [List.getElem?_append_left hj] at q
      exact L.at_ j T' q
    · have hl := (List.getElem?_eq_some_iff.mp q).1
      rw [List.length_append, List.length_singleton] at hl
      have ej : j = i := by have := L.l; omega
      subst ej
      rw [List.getElem?_append_right (by omega), L.l, Nat.sub_self] at q
      cases q
      exact ⟨x, y, hp, hx, hy, hN, n⟩
end
section
variable {prog : Program} {w : World} {A : Around} {R : Result → Shared → Prop} {z TI TO i1 i2 l1 l2 S : Addr} {xs ys : Array Value} {n : Nat}
theorem extend_loop {N : Nat} (hh : A.handled = none) (D : ZipApart z TI TO i1 i2 l1 l2) (O : Off z TI TO i1 i2 l1 l2 S) (h1n : xs.size = n) (h2n : ys.size = n) (hn : n ≤ sizeLine) (res : Value) :
    ∀ (k i : Nat) (s : Shared) (acc : Array Value) (Ts : List Addr) (c : Nat), n - i = k → i ≤ n → N ≤ s.heap.objs.size → ZS z TI TO i1 i2 l1 l2 S s.heap i → s.heap.IsTuple l1 xs → s.heap.IsTuple l2 ys → s.heap.get? S = some { cls := .type "list", dict := none, data := .seq acc c, slots := #[] } → Laid N z TO i1 i2 S xs ys s.heap acc i Ts →
    (∀ h' acc' Ts' c', (∀ b o, b ≠ z → b ≠ TO → b ≠ i1 → b ≠ i2 → b ≠ S → s.heap.get? b = some o → h'.get? b = some o) → h'.get? S = some { cls := .type "list", dict := none, data := .seq acc' c', slots := #[] } → Laid N z TO i1 i2 S xs ys h' acc' n Ts' → R (.ok (.ret res)) { s with heap := h' }) →
    codeAny (model prog w) A (.builtin "list.extend.loop" ⟨[.ref S, .ref z, res], []⟩) R s := by
  intro k
  induction k with
  | zero =>
    intro i s acc Ts c hk hi hN st hl1 hl2 hS hacc hR
    have hin : i = n := by omega
    subst hin
    refine codeAny_builtin F.entry_extend_loop ?_
    rw [Around.under_plainId F.plain_extend_loop _]
    show wpAny _ A.in1 (pyNext (.ref z) >>= _) _ _ s
    refine wpAny_bind (next_end (A := A.in1) hh D st hl1 hl2 (.inl (Array.getElem?_eq_none (by omega))) fun h' hk => ?_)
    exact wpAny_pure (hR h' acc Ts c (fun b o b1 b2 b3 b4 _ e => hk b o b1 b2 b3 b4 e) (hk S _ (Ne.symm O.z) (Ne.symm O.TO) (Ne.symm O.i1) (Ne.symm O.i2) hS) (hacc.keep fun c o c1 c2 c3 c4 _ => hk c o c1 c2 c3 c4))
  | succ k ih =>
    intro i s acc Ts c hk hi hN st hl1 hl2 hS hacc hR
    have hlt : i < n := by omega
    obtain ⟨x, hx⟩ : ∃ x, xs[i]? = some x := ⟨_, Array.getElem?_eq_getElem (by omega)⟩
    obtain ⟨y, hy⟩ : ∃ y, ys[i]? = some y := ⟨_, Array.getElem?_eq_getElem (by omega)⟩
    have Sl : S < s.heap.objs.size := Heap.lt_size hS
    refine codeAny_builtin F.entry_extend_loop ?_
    rw [Around.under_plainId F.plain_extend_loop _]
    show wpAny _ A.in1 (pyNext (.ref z) >>= _) _ _ s
    refine wpAny_bind (next_item (A := A.in1) D Sl st hl1 hl2 hx hy fun h' st' hp hsz hk' => ?_)
    have hS' := hk' S _ (Ne.symm O.z) (Ne.symm O.TO) (Ne.symm O.i1) (Ne.symm O.i2) hS
    have zl : z < s.heap.objs.size := by
      rcases st.st with q | ⟨_, _, _, q, _⟩
      · exact Heap.lt_size q
      · exact Heap.lt_size q
    have tl : TO < s.heap.objs.size := by obtain ⟨_, _, q⟩ := st.hTO; exact Heap.lt_size q
    have l1 : i1 < s.heap.objs.size := by obtain ⟨_, q, _⟩ := st.h1; exact Heap.lt_size q
    have l2 : i2 < s.heap.objs.size := by obtain ⟨_, q, _⟩ := st.h2; exact Heap.lt_size q
    have nw : s.heap.objs.size ≠ z ∧ s.heap.objs.size ≠ TO ∧ s.heap.objs.size ≠ i1 ∧ s.heap.objs.size ≠ i2 ∧ s.heap.objs.size ≠ S := ⟨Nat.ne_of_gt zl, Nat.ne_of_gt tl, Nat.ne_of_gt l1, Nat.ne_of_gt l2, Nat.ne_of_gt Sl⟩
    have up : ∀ b o, b ≠ S → h'.get? b = some o → (h'.update S (Obj.mapSeq (·.push (Value.ref s.heap.objs.size)))).get? b = some o := fun b o hb e => (Heap.get?_update_other _ _ (Ne.symm hb)).trans e
    have hnt : s.heap.objs.size ∉ Ts := fun hm => by
      obtain ⟨j, hj⟩ := List.mem_iff_getElem?.mp hm
      obtain ⟨_, _, q, _⟩ := hacc.at_ j _ hj
      exact Nat.lt_irrefl _ (Heap.lt_size q)
    have hN2 : N ≤ (h'.update S (Obj.mapSeq (·.push (Value.ref s.heap.objs.size)))).objs.size := by
      have : (h'.update S (Obj.mapSeq (·.push (Value.ref s.heap.objs.size)))).objs.size = h'.objs.size := Heap.size_update ..
      rw [this, hsz]
      omega
    show wpAny _ A.in1 (updateSeq S (·.push (Value.ref s.heap.objs.size)) >>= _) _ _ _
    refine wpAny_bind ?_
    refine wpAny_updateSeq hS' rfl (wpAny_pure ⟨plainId_quiet F.plain_extend_loop _, ih (i + 1) _ (acc.push (.ref s.heap.objs.size)) (Ts ++ [s.heap.objs.size]) _ (by omega) hlt hN2 (st'.keep O up) ?_ ?_ (Heap.get?_update_self _ hS' rfl) (((hacc.keep fun c o c1 c2 c3 c4 _ => hk' c o c1 c2 c3 c4).push hnt hN hp hx hy nw).keep fun c o _ _ _ _ c5 => up c o c5) fun h'' acc' Ts' c' hm'' hS'' hacc' => ?_⟩)
      (by rw [hacc.sz]; omega) (by show (acc.push _).size ≤ sizeLine + 1; rw [Array.size_push, hacc.sz]; omega)
    · obtain ⟨o, q, r⟩ := hl1
      exact ⟨o, up _ _ O.l1 (hk' _ _ D.l1z D.l1TO D.l1i1 D.l1i2 q), r⟩
    · obtain ⟨o, q, r⟩ := hl2
      exact ⟨o, up _ _ O.l2 (hk' _ _ D.l2z D.l2TO D.l2i1 D.l2i2 q), r⟩
    · exact hR h'' acc' Ts' c' (fun b o b1 b2 b3 b4 b5 e => hm'' b o b1 b2 b3 b4 b5 (up b o b5 (hk' b o b1 b2 b3 b4 e))) hS'' hacc'
end
section
variable {prog : Program} {w : World} {A : Around} {E : Value → Shared → Prop} {s : Shared} {z TI TO i1 i2 l1 l2 : Addr} {xs ys : Array Value} {n : Nat}
theorem nolen_zip : typeLookup (.type "zip") "__len__" = pure none := am_miss_of_fast (by decide +kernel)
theorem nohint_zip : typeLookup (.type "zip") "__length_hint__" = pure none := am_miss_of_fast (by decide +kernel)
theorem zs_ty {S : Addr} {i : Nat} (st : ZS z TI TO i1 i2 l1 l2 S s.heap i) : s.TypeIs (.ref z) "zip" := by
  rcases st.st with q | ⟨_, _, _, q, _⟩
  · exact ⟨_, q, rfl⟩
  · exact ⟨_, q, rfl⟩
theorem collect_zip {Q : List Value → Shared → Prop} (hh : A.handled = none) (D : ZipApart z TI TO i1 i2 l1 l2) (hz : IsZip s.heap z TI TO .none) (hTI : IsPair s.heap TI (.ref i1) (.ref i2)) (hTO : ∃ a b, IsPair s.heap TO a b) (h1 : s.heap.IsTupleIter i1 l1 0) (h2 : s.heap.IsTupleIter i2 l2 0) (hl1 : s.heap.IsTuple l1 xs) (hl2 : s.heap.IsTuple l2 ys) (h1n : xs.size = n) (h2n : ys.size = n) (hn : n ≤ sizeLine)
    (hQ : ∀ h' acc Ts, (∀ b o, b ≠ z → b ≠ TO → b ≠ i1 → b ≠ i2 → s.heap.get? b = some o → h'.get? b = some o) → Laid s.heap.objs.size z TO i1 i2 s.heap.objs.size xs ys h' acc n Ts → Q acc.toList { s with heap := h' }) :
    wpAny (model prog w) A (collect (.ref z)) Q E s := by
  have zl : z < s.heap.objs.size := Heap.lt_size hz
  have O : Off z TI TO i1 i2 l1 l2 s.heap.objs.size := ⟨Nat.ne_of_lt zl, Nat.ne_of_lt (Heap.lt_size hTI), by obtain ⟨_, _, q⟩ := hTO; exact Nat.ne_of_lt (Heap.lt_size q), by obtain ⟨_, q, _⟩ := h1; exact Nat.ne_of_lt (Heap.lt_size q), by obtain ⟨_, q, _⟩ := h2; exact Nat.ne_of_lt (Heap.lt_size q), by obtain ⟨_, q, _⟩ := hl1; exact Nat.ne_of_lt (Heap.lt_size q), by obtain ⟨_, q, _⟩ := hl2; exact Nat.ne_of_lt (Heap.lt_size q)⟩
  have st0 : ZS z TI TO i1 i2 l1 l2 s.heap.objs.size s.heap 0 := ⟨.inl hz, hTI, hTO, h1, h2⟩
  unfold collect
  refine wpAny_bind (wpAny_runValue (codeAny_builtin F.entry_proto_collect ?_))
  rw [Around.under_plainId F.plain_proto_collect _]
  show wpAny _ A.in1 (newList [] >>= fun l => again (.builtin "list.__iadd__" ⟨[l, .ref z], []⟩)) _ _ s
  refine wpAny_bind (wpAny_newObj_type ?_)
  refine wpAny_pure ⟨plainId_quiet F.plain_list_iadd _, codeAny_builtin F.entry_list_iadd ?_⟩
  rw [Around.under_plainId F.plain_list_iadd _]
  have st1 : ZS z TI TO i1 i2 l1 l2 s.heap.objs.size (s.heap.push { cls := .type "list", data := .seq ([] : List Value).toArray }) 0 := st0.keep O fun b o _ e => Heap.get?_push_of_some _ e
  have hT1 := zs_ty (s := { s with heap := s.heap.push { cls := .type "list", data := .seq ([] : List Value).toArray } }) st1
  show wpAny _ A.in1 (Builtin.List.listExtendWith (.ref s.heap.objs.size) (.ref z) (.ref s.heap.objs.size)) _ _ _
  unfold Builtin.List.listExtendWith
  refine wpAny_bind (wpAny_typeOf hT1 ?_)
  have e1 : Builtin.List.listSameRef (.ref s.heap.objs.size) (.ref z) = false := by simp [Builtin.List.listSameRef, Ne.symm O.z]
  have e2 : (Value.type "zip" == Value.type "list") = false := by decide
  have e3 : (Value.type "zip" == Value.type "tuple") = false := by decide
  simp only [e1, e2, e3, Bool.or_false, Bool.false_eq_true, if_false]
  have hz1 : IsZip (s.heap.push { cls := .type "list", data := .seq ([] : List Value).toArray }) z TI TO .none := Heap.get?_push_of_some _ hz
  refine wpAny_bind (wpAny_pyIter_zip (s := { s with heap := s.heap.push { cls := .type "list", data := .seq ([] : List Value).toArray } }) hz1 ?_)
  refine wpAny_bind (wpAny_holding ?_)
  unfold Builtin.List.listLengthHint
  refine wpAny_bind (wpAny_specialOf hT1 nolen_zip ?_)
  show wpAny _ A.in1 (specialOf (Value.ref z) (Str.ofString "__length_hint__") >>= _) _ _ _
  refine wpAny_bind (wpAny_specialOf hT1 nohint_zip ?_)
  refine wpAny_pure ?_
  show wpAny _ A.in1 (rule "list.extend.makes-room" >>= fun _ => Builtin.List.listTouch (.ref s.heap.objs.size) >>= fun _ =>
    again (.builtin "list.extend.loop" ⟨[.ref s.heap.objs.size, .ref z, .ref s.heap.objs.size], []⟩)) _ _ _
  refine wpAny_bind (wpAny_rule ?_)
  have hS₁ : (s.heap.push { cls := .type "list", data := .seq ([] : List Value).toArray }).get? s.heap.objs.size = some { cls := .type "list", data := .seq ([] : List Value).toArray } := Heap.get?_push_size _ rfl
  refine wpAny_bind ?_
  show wpAny _ A.in1 (updateSeq s.heap.objs.size (·.push .none) >>= fun _ => updateSeq s.heap.objs.size (·.pop)) _ _ _
  refine wpAny_bind (wpAny_updateSeq hS₁ rfl ?_)
  have hS₂ := Heap.get?_update_self (Obj.mapSeq (·.push Value.none)) hS₁ rfl
  refine wpAny_updateSeq hS₂ rfl ?_
  have hS₃ := Heap.get?_update_self (Obj.mapSeq (·.pop)) hS₂ rfl
  have oth : ∀ b o, b ≠ s.heap.objs.size → s.heap.get? b = some o →
      (((s.heap.push { cls := .type "list", data := .seq ([] : List Value).toArray }).update s.heap.objs.size (Obj.mapSeq (·.push Value.none))).update s.heap.objs.size (Obj.mapSeq (·.pop))).get? b = some o :=
    fun b o hb e => (Heap.get?_update_other _ _ (Ne.symm hb)).trans ((Heap.get?_update_other _ _ (Ne.symm hb)).trans (Heap.get?_push_of_some _ e))
  refine wpAny_pure ⟨plainId_quiet F.plain_extend_loop _, extend_loop (A := A) (N := s.heap.objs.size) hh D O h1n h2n hn _ n 0 _ _ _ _ rfl (Nat.zero_le _) ?_ (st0.keep O oth) ?_ ?_ hS₃ Laid.nil fun h' acc' Ts c' hm hS' hacc => ?_⟩
  · have e1 := Heap.size_update (s.heap.push { cls := .type "list", data := .seq ([] : List Value).toArray }) s.heap.objs.size (Obj.mapSeq (·.push Value.none))
    have e2 := Heap.size_update ((s.heap.push { cls := .type "list", data := .seq ([] : List Value).toArray }).update s.heap.objs.size (Obj.mapSeq (·.push Value.none))) s.heap.objs.size (Obj.mapSeq (·.pop))
    have e3 : (s.heap.push { cls := .type "list", data := .seq ([] : List Value).toArray }).objs.size = s.heap.objs.size + 1 := Heap.size_push ..
    show s.heap.objs.size ≤ (((s.heap.push { cls := .type "list", data := .seq ([] : List Value).toArray }).update s.heap.objs.size (Obj.mapSeq (·.push Value.none))).update s.heap.objs.size (Obj.mapSeq (·.pop))).objs.size
    rw [e2, e1, e3]
    omega
  · obtain ⟨o, q, r⟩ := hl1
    exact ⟨o, oth _ _ O.l1 q, r⟩
  · obtain ⟨o, q, r⟩ := hl2
    exact ⟨o, oth _ _ O.l2 q, r⟩
  show wpAny _ A (load s.heap.objs.size >>= _) _ _ { s with heap := h' }
  refine wpAny_bind (wpAny_load hS' ?_)
  exact wpAny_pure (hQ h' acc' Ts (fun b o b1 b2 b3 b4 e => by
    have hb : b ≠ s.heap.objs.size := Nat.ne_of_lt (Heap.lt_size e)
    exact hm b o b1 b2 b3 b4 hb (oth b o hb e)) hacc)
theorem call_tuple_zip {Q : Value → Shared → Prop} (hh : A.handled = none) (D : ZipApart z TI TO i1 i2 l1 l2) (hz : IsZip s.heap z TI TO .none) (hTI : IsPair s.heap TI (.ref i1) (.ref i2)) (hTO : ∃ a b, IsPair s.heap TO a b) (h1 : s.heap.IsTupleIter i1 l1 0) (h2 : s.heap.IsTupleIter i2 l2 0) (hl1 : s.heap.IsTuple l1 xs) (hl2 : s.heap.IsTuple l2 ys) (h1n : xs.size = n) (h2n : ys.size = n) (hn : n ≤ sizeLine)
    (hQ : ∀ h' acc Ts, (∀ b o, b ≠ z → b ≠ TO → b ≠ i1 → b ≠ i2 → s.heap.get? b = some o → h'.get? b = some o) → Laid s.heap.objs.size z TO i1 i2 s.heap.objs.size xs ys h' acc n Ts → Q (.ref h'.objs.size) { s with heap := h'.push { cls := .type "tuple", data := .seq acc } }) :
    wpAny (model prog w) A (call (.type "tuple") [.ref z]) Q E s := by
  have code : ∀ {A : Around} {Q₁ : Value → Shared → Prop}, A.handled = none → (∀ h' acc Ts, (∀ b o, b ≠ z → b ≠ TO → b ≠ i1 → b ≠ i2 → s.heap.get? b = some o → h'.get? b = some o) → Laid s.heap.objs.size z TO i1 i2 s.heap.objs.size xs ys h' acc n Ts → Q₁ (.ref h'.objs.size) { s with heap := h'.push { cls := .type "tuple", data := .seq acc } }) →
      codeAny (model prog w) A (.call (.builtin "tuple.__new__") ⟨[.type "tuple", .ref z], []⟩) (wants Q₁ E) s := by
    intro A Q₁ hh h
    refine codeAny_of_tree ?_
    show wpAny _ A.in1 (do checkBuiltinCall "tuple.__new__" ⟨[.type "tuple", .ref z], []⟩; again (.builtin "tuple.__new__" ⟨[.type "tuple", .ref z], []⟩)) _ _ s
    refine wpAny_bind (wpAny_of_eq (F.newCall_tuple_1 _) (wpAny_pure ⟨plainId_quiet F.plain_tuple_new _, codeAny_builtin F.entry_tuple_new ?_⟩))
    rw [Around.under_plainId F.plain_tuple_new _]
    have hsub := sub_tuple_self
    have hinit := init_tuple_lookup
    have hmh := madeHere_tuple
    have hTI' : s.TypeIs (.ref z) "zip" := ⟨_, hz, rfl⟩
    have hh1 : A.in1.handled = none := hh
    wp_walk using wpAny_typeOf hTI', collect_zip (A := A.in1) hh1 D hz hTI hTO h1 h2 hl1 hl2 h1n h2n hn
    intro h' acc Ts hk hacc
    show wpAny _ _ (Builtin.Tuple.tupleExact acc.toList.toArray >>= fun v => ret v) _ _ _
    unfold Builtin.Tuple.tupleExact
    refine wpAny_bind (wpAny_newObj_type ?_ (by show acc.toList.toArray.size ≤ sizeLine; simp only [Array.toArray_toList]; rw [hacc.sz]; exact hn))
    refine wpAny_pure ?_
    have e : acc.toList.toArray = acc := by simp
    rw [e]
    exact h h' acc Ts hk hacc
  refine callType_codes (Q₁ := fun obj s₁ => s₁.TypeIs obj "tuple" ∧ Q obj s₁) F.called_tuple (F.typeCall_tuple_1 _) F.entry_object_init
    (code (A := A.in1) hh fun h' acc Ts hk hacc => ⟨⟨_, Heap.get?_push_size _ rfl, rfl⟩, hQ h' acc Ts hk hacc⟩) fun obj s₁ h₁ => ?_
  exact ⟨h₁.1, F.args_object_init_2 obj _, object_init_meets F.called_tuple.init.lookup F.called_tuple.made (by decide) prog w A.in1 _ s₁ ⟨h₁.1, rfl, h₁.2⟩⟩
end
end TZ
namespace L2
open PySem PySem.Spec PyProof.Rows RZ
/-- so many pairs, laid one behind the other -/
def laysQ : List (V × V) → (List Addr → Hp → Prop) → Hp → Prop
  | [], k, H => k [] H
  | p :: r, k, H => ∀ T, H T = none → laysQ r (fun Ts H' => k (T :: Ts) H') (upd H T (.tup [p.1, p.2]))
section
variable {X : Cx} {pins : List (Addr × Obj)} {σ : St}
theorem lays_inv {s : Shared} {h' : Heap} : ∀ (Ts : List Addr) (ps : List (V × V)) (H : Hp) (G : Heap) (k : List Addr → Hp → Prop), Inv X pins σ H { s with heap := G } → Ts.length = ps.length → Ts.Nodup → (∀ T ∈ Ts, G.get? T = none) → (∀ b o, G.get? b = some o → h'.get? b = some o) →
    (∀ (j : Nat) (T : Addr) (p : V × V), Ts[j]? = some T → ps[j]? = some p → ∃ u v : Value, IsPair h' T u v ∧ RelV p.1 u ∧ RelV p.2 v) → laysQ ps k H → ∃ H', Inv X pins σ H' { s with heap := h' } ∧ k Ts H'
  | [], [], H, G, k, I, _, _, _, hk, _, q => ⟨H, I.kept (t' := s.toks) hk, q⟩
  | [], _ :: _, _, _, _, _, hl, _, _, _, _, _ => by cases hl
  | _ :: _, [], _, _, _, _, hl, _, _, _, _, _ => by cases hl
  | T :: Ts, p :: ps, H, G, k, I, hl, hn, hg, hk, hp, q => by
    obtain ⟨n1, n2⟩ := List.nodup_cons.mp hn
    obtain ⟨G', g1, g2⟩ := restrict h' fun b => decide (b ∉ Ts)
    have up : ∀ b o, b ∉ Ts → h'.get? b = some o → G'.get? b = some o := fun b o hb e => by rw [g1 b (decide_eq_true hb)]; exact e
    have dn : ∀ b o, G'.get? b = some o → h'.get? b = some o := fun b o e => by
      by_cases hb : b ∈ Ts
      · rw [g2 b (decide_eq_false fun z => z hb)] at e
        cases e
      · rw [← g1 b (decide_eq_true hb)]
        exact e
    obtain ⟨u, v, hT, r1, r2⟩ := hp 0 T p rfl rfl
    have hGT : G.get? T = none := hg T List.mem_cons_self
    have hHT : H T = none := I.hok.gone hGT
    have kG : ∀ b o, G.get? b = some o → G'.get? b = some o := fun b o e => up b o (fun z => by rw [hg b (List.mem_cons_of_mem _ z)] at e; cases e) (hk b o e)
    have I2 : Inv X pins σ (upd H T (.tup [p.1, p.2])) { s with heap := G' } := I.laidN (t' := s.toks) kG hGT hHT ⟨by show 2 ≤ sizeLine; rw [sizeLine_eq]; omega, [u, v], .cons r1 (.cons r2 .nil), ⟨_, up _ _ n1 hT, rfl, _, rfl⟩⟩
    obtain ⟨H', a, b⟩ := lays_inv Ts ps (upd H T (.tup [p.1, p.2])) G' (fun Ts H' => k (T :: Ts) H') I2 (by simpa using hl) n2 (fun T' hT' => g2 T' (decide_eq_false fun z => z hT')) dn (fun j T' p' a b => hp (j + 1) T' p' a b) (q T hHT)
    exact ⟨H', a, b⟩
/-- tuple(zip(a, b)), tuples of one length -/
def tTupZip (K : PySem.W.Frag) (ta : TA) : TE := fun σ H Q => ta σ H fun vs H1 => ∃ a b xs ys, vs = [.ref a, .ref b] ∧ SqT K H1 a xs ∧ SqT K H1 b ys ∧ xs.length = ys.length ∧
  laysQ (xs.zip ys) (fun Ts H2 => ∀ p, H2 p = none → Q (.ref p) (upd H2 p (.tup (Ts.map V.ref)))) H1
theorem pe_tupZip {e e2 : Expr} {ta : TA} {p p2 pos pos2 : Pos} (hc : X.calm = true) (hg : Gl X "tuple") (hm : X.mg "tuple" = none) (hg2 : Gl X "zip") (hm2 : X.mg "zip" = none) (ha : PA X [e, e2] ta)
    (hs : starEach [e, e2] X.env = (false, eval e X.env) :: starEach [e2] X.env := by rfl) (hpl : (backTo pos2 (starEach [e2] X.env)).any (·.1) = false := by rfl)
    (hs2 : starEach [.Call (.Name "zip" p2) [e, e2] [] pos2] X.env = (false, eval (.Call (.Name "zip" p2) [e, e2] [] pos2) X.env) :: starEach [] X.env := by rfl) :
    PE X (.Call (.Name "tuple" p) [.Call (.Name "zip" p2) [e, e2] [] pos2] [] pos) (tTupZip X.K ta) := by
  refine ⟨fun pins s σ H Q I h => ?_⟩
  refine Call_ (ld_blt I hg hm boot_tuple (PyProof.Rows.callWith_type1 (args_cons (Call_ (ld_blt I hg2 hm2 PyProof.Rows.boot_zip (PyProof.Rows.callWith_type1 (thn (ha.run pos2 pins s σ H _ I h) fun us s1 ⟨vs, H1, I1, r1, q1⟩ => ?_) hs hpl))) hs2) hs2 rfl))
  obtain ⟨a, b, xs, ys, ex, hqx, hqy, hl, q⟩ := q1
  subst ex
  cases r1 with
  | cons r rr =>
    cases rr with
    | cons r' rr =>
      cases rr
      cases r
      cases r'
      obtain ⟨its, rv, p1, z1⟩ := I1.tuple hqx
      obtain ⟨its2, rv2, p2', z2⟩ := I1.tuple hqy
      obtain ⟨o1, ho1, _⟩ := id p1
      obtain ⟨o2, ho2, _⟩ := id p2'
      refine call_zipT (show s1.heap.IsTuple a its.toArray from p1) (show s1.heap.IsTuple b its2.toArray from p2') fun h' hz hTI hTO h1 h2 hsz hk => args_nil ?_
      have k1 : h'.IsTuple a its.toArray := by
        obtain ⟨o, q, r⟩ := (show s1.heap.IsTuple a its.toArray from p1)
        exact ⟨o, hk _ _ q, r⟩
      have k2 : h'.IsTuple b its2.toArray := by
        obtain ⟨o, q, r⟩ := (show s1.heap.IsTuple b its2.toArray from p2')
        exact ⟨o, hk _ _ q, r⟩
      refine TZ.call_tuple_zip (s := { s1 with heap := h' }) (n := xs.length) (I1.ok.hd hc) (PySem.W.ktu_apart s1.heap.objs.size a b (Heap.lt_size ho1) (Heap.lt_size ho2)) hz hTI ⟨_, _, hTO⟩ h1 h2 k1 k2 (by rw [List.size_toArray, rv.length]) (by rw [List.size_toArray, hl, rv2.length]) z1 fun h2' acc Ts hk2 L => ?_
      have old : ∀ b o, s1.heap.get? b = some o → h2'.get? b = some o := fun c o e => by
        have hlt := Heap.lt_size e
        have ne : ∀ d : Nat, c ≠ s1.heap.objs.size + d := fun d z => Nat.lt_irrefl _ (Nat.lt_of_le_of_lt (Nat.le_add_right s1.heap.objs.size d) (by rw [← z]; exact hlt))
        exact hk2 c o (ne 4) (ne 3) (ne 0) (ne 1) (hk c o e)
      obtain ⟨G, g1, g2⟩ := restrict h2' fun b => decide (b ∉ Ts)
      have new : ∀ T ∈ Ts, s1.heap.objs.size ≤ T := fun T hT => by
        obtain ⟨j, hj⟩ := List.mem_iff_getElem?.mp hT
        obtain ⟨_, _, _, _, _, c0, _⟩ := L.at_ j T hj
        have : h'.objs.size ≤ T := c0
        omega
      have kG : ∀ b o, s1.heap.get? b = some o → G.get? b = some o := fun c o e => by
        have hlt := Heap.lt_size e
        rw [g1 c (decide_eq_true fun z => Nat.lt_irrefl _ (Nat.lt_of_lt_of_le hlt (new c z)))]
        exact old c o e
      have I2 : Inv X pins σ H1 { s1 with heap := G } := I1.kept (t' := s1.toks) kG
      have zl : (xs.zip ys).length = xs.length := by rw [List.length_zip, hl, Nat.min_self]
      obtain ⟨H2, I3, q3⟩ := lays_inv (s := s1) (h' := h2') Ts (xs.zip ys) H1 G _ I2 (by rw [zl, L.l]) L.nd (fun T hT => g2 T (decide_eq_false fun z => z hT)) (fun c o e => by
        by_cases hb : c ∈ Ts
        · rw [g2 c (decide_eq_false fun z => z hb)] at e
          cases e
        · rw [← g1 c (decide_eq_true hb)]
          exact e) (fun j T pr hj hpr => by
          obtain ⟨x, y, hp, hx, hy, _⟩ := L.at_ j T hj
          have hzp := List.getElem?_zip_eq_some.mp hpr
          obtain ⟨u1, e1, w1⟩ := rv.get hzp.1
          obtain ⟨u2, e2, w2⟩ := rv2.get hzp.2
          have f1 : x = u1 := by
            have : its[j]? = some x := by simpa using hx
            rw [e1] at this
            exact (Option.some.inj this).symm
          have f2 : y = u2 := by
            have : its2[j]? = some y := by simpa using hy
            rw [e2] at this
            exact (Option.some.inj this).symm
          subst f1 f2
          exact ⟨x, y, hp, w1, w2⟩) q
      have hf : H2 h2'.objs.size = none := I3.hok.fresh (Nat.le_refl _)
      refine ⟨.ref h2'.objs.size, upd H2 h2'.objs.size (.tup (Ts.map V.ref)), I3.laid (t' := s1.toks) (fun c o e => Heap.get?_push_of_some _ e) (Nat.le_refl _) ⟨?_, Ts.map Value.ref, ?_, ?_⟩, rfl, q3 _ hf⟩
      · rw [List.length_map, L.l]; exact z1
      · exact (show ∀ l : List Addr, Vals (l.map V.ref) (l.map Value.ref) from fun l => by
          induction l with
          | nil => exact .nil
          | cons a l ih => exact .cons rfl ih) Ts
      · rw [← L.e]
        rw [Array.toArray_toList]
        exact IsTup.new _ _
end
end L2
namespace Ds
open PySem PySem.Spec PyProof.Rows L2 Dn
def dTupZip : D → D → Option D
  | .tuple ds, .tuple es => if ds.length = es.length then some (.tuple (zipD ds es)) else none
  | _, _ => none
def mTupZip (ma mb : M D) : M D := mBin dTupZip ma mb
section
variable {K : Frag} {G : Hp} {σ : L2.St} {δ : Sx}
theorem laysQ_of : ∀ (vs ws : List V) (ds es : List D) (g : Gh) (H : Hp) (k : List Addr → Hp → Prop), RE K G g H σ δ → Rps K g.h vs ds → Rps K g.h ws es → vs.length = ws.length → (∀ g' H' Ts, Grw g H g' H' → RE K G g' H' σ δ → Rps K g'.h (Ts.map V.ref) (zipD ds es) → k Ts H') → laysQ (vs.zip ws) k H
  | [], [], ds, es, g, H, k, re, r1, r2, _, h => by
    cases r1
    cases r2
    exact h g H [] (Grw.refl re.ex) re .nil
  | [], _ :: _, _, _, _, _, _, _, _, _, hl, _ => by cases hl
  | _ :: _, [], _, _, _, _, _, _, _, _, hl, _ => by cases hl
  | v :: vs, w :: ws, ds, es, g, H, k, re, r1, r2, hl, h => by
    cases r1 with
    | cons a1 b1 =>
      cases r2 with
      | cons a2 b2 =>
        intro T hT
        have w1 := Grw.new (o := .tup [v, w]) re.ex hT
        refine laysQ_of vs ws _ _ _ _ _ (re.grow w1) (b1.ex w1.le.h) (b2.ex w1.le.h) (by simpa using hl) fun g' H' Ts w2 re2 r => ?_
        refine h g' H' (T :: Ts) (w1.trans w2) re2 (.cons (.tup (StT.of (w2.le.h _ _ upd_same)) (.cons (a1.ex (w1.trans w2).le.h) (.cons (a2.ex (w1.trans w2).le.h) .nil))) r)
end
section
variable {X : Cx} {E : XQ} {a b : Expr} {ma mb : M D} {p p2 pos pos2 : Pos}
theorem je_tupZip (hc : X.calm = true) (hg : Gl X "tuple") (hm : X.mg "tuple" = none) (hg2 : Gl X "zip") (hm2 : X.mg "zip" = none) (ha : PE X a (tOf X.K E ma)) (hb : PE X b (tOf X.K E mb))
    (hs : starEach [a, b] X.env = (false, eval a X.env) :: starEach [b] X.env := by rfl) (hsb : starEach [b] X.env = (false, eval b X.env) :: starEach [] X.env := by rfl) (hpl : (backTo pos2 (starEach [b] X.env)).any (·.1) = false := by rfl)
    (hs2 : starEach [.Call (.Name "zip" p2) [a, b] [] pos2] X.env = (false, eval (.Call (.Name "zip" p2) [a, b] [] pos2) X.env) :: starEach [] X.env := by rfl) :
    PE X (.Call (.Name "tuple" p) [.Call (.Name "zip" p2) [a, b] [] pos2] [] pos) (tOf X.K E (mTupZip ma mb)) :=
  pe_imp (pe_tupZip hc hg hm hg2 hm2 (pa_cons ha (pa_cons hb pa_nil hsb) hs) hs hpl hs2) fun σ H Q ⟨G, g, δ, re, po⟩ => tOf.step re po fun v d g1 H1 δ1 e1 re1 r1 po1 => tOf.step re1 po1 fun w c g2 H2 δ2 e2 re2 r2 po2 => by
    obtain ⟨x, hx, po3⟩ := Post.opt po2
    cases r1 with
    | @tup q1 xs ds h1 t1 =>
      cases r2 with
      | @tup q2 ys es h2 t2 =>
        have hx : (if ds.length = es.length then some (PyData.tuple (zipD ds es)) else none) = some x := hx
        by_cases hl : ds.length = es.length
        · rw [if_pos hl] at hx
          have hx := Option.some.inj hx
          subst hx
          have hl2 : xs.length = ys.length := by rw [t1.length, t2.length]; exact hl
          refine ⟨q1, q2, xs, ys, rfl, sqT_ex (e2.h.trans re2.ex) h1, sqT_ex re2.ex h2, hl2, laysQ_of xs ys ds es _ _ _ re2 (t1.ex e2.h) t2 hl2 fun g' H' Ts w re' r => fun pp hp => ?_⟩
          have w2 := Grw.new (o := .tup (Ts.map V.ref)) re'.ex hp
          exact Post.grow po3 re2 (w.trans w2) _ (.tup (StT.of upd_same) (r.ex w2.le.h))
        · rw [if_neg hl] at hx
          cases hx
      | _ => simp [dTupZip] at hx
    | _ => simp [dTupZip] at hx
/-- o.f += e -/
def mAugFM (c : Str) (ml : M Nat) (f : Str) (F : Int → Int → Int) (m : M D) : M Fl := mBind ml fun l δ => match δ.s[l]? with
  | some (.ins c' fs) => if c' = c then (match fs.lookup f with
    | some (.sh (.int i)) => (mBind m fun d δ' => match d with
      | .int k => (match δ'.s[l]? with
        | some (.ins c2 fs2) => if c2 = c ∧ fs2.length < 1000 then .ok .nx ⟨δ'.e, δ'.s.set l (.ins c (putFC f (.sh (.int (F i k))) fs2))⟩ else .bad
        | _ => .bad)
      | _ => .bad) δ
    | _ => .bad) else .bad
  | _ => .bad
variable {o e : Expr} {ml : M Nat} {m : M D}
theorem js_augFM {c fl : Str} {C : Addr} {op : Operator} {F : Int → Int → Int} {tpos : Pos} (hC : clsA X.K c = some C) (hk : Cls X.K C) (n : NoAttr X.K C fl) (ho : PE X o (tOfL X.K E ml)) (he : PE X e (tOf X.K E m)) (hop : InOp X op (rI2 F)) : PS X (.AugAssign (.Attribute o fl tpos) op e pos) (tOfS X.K E (mAugFM c ml fl F m)) :=
  pst_imp (ps_fldaug ho he hop) fun B σ H ⟨G, g, δ, re, po⟩ => tOfL.stepS re po fun q l g2 H2 δ2 e2 re2 r2 po2 => by
    split at po2
    · rename_i c' fs hx
      split at po2
      · rename_i hc
        subst hc
        obtain ⟨dx, vs, h1, h2⟩ := re2.insAt hC r2 hx
        split at po2
        · rename_i i hf
          rcases h2.look fl with ⟨z, _⟩ | ⟨v, y, k1, k2, k3⟩
          · rw [z] at hf; cases hf
          · rw [k1] at hf
            cases hf
            cases k3 with
            | sh k3 =>
              cases k3
              refine ⟨q, C, dx, vs, _, rfl, h1, hk, n, k2, ?_⟩
              refine tOf.stepS re2 po2 fun v d g3 H3 δ3 e3 re3 r3 po3 => ?_
              cases r3 with
              | int j =>
                dsimp only at po3
                split at po3
                · rename_i c2 fs2 hx2
                  split at po3
                  · rename_i hc2
                    obtain ⟨hc2, hl2⟩ := hc2
                    subst hc2
                    have r2' := e3.r _ _ r2
                    obtain ⟨dx', vs', h1', h2'⟩ := re3.insAt hC r2' hx2
                    exact ⟨_, _, rfl, rfl, dx', vs', h1', by rw [h2'.length]; exact hl2, PostS.of po3 (re3.write hx2 rfl r2' (.ins hC (h2'.putF fl (.sh (.int _)))))⟩
                  · exact po3.elim
                · exact po3.elim
              | _ => exact po3.elim
        · exact po2.elim
      · exact po2.elim
    · exact po2.elim
end
end Ds
namespace Ds
open PySem PySem.Spec PyProof.Rows L2 Dn
section
variable {X : Cx} {pins : List (Addr × Obj)} {σ : L2.St} {H : Hp} {s : Shared}
def rSortTup (K : Frag) : List V → Hp → VK → Prop := fun vs H Q => ∃ Hs a xs ds, vs = [V.ref a] ∧ Ex Hs H ∧ SqT K H a xs ∧ Rps K Hs xs ds ∧ SortP ds ∧ ∀ ys p, Rps K Hs ys (sortD ds) → H p = none → Q (.ref p) (upd H p (.lst ys))
theorem cr_sortTup (hu : X.A.units + 64 < cLine) : CallR X (.builtin "sorted") (rSortTup X.K) := by
  intro pins s σ H vs us Q I r h
  obtain ⟨Hs, a, xs, ds, rfl, ex, hs, hr, hp, q⟩ := h
  obtain ⟨its, rv, ⟨o, ho, hc, n, hd⟩, hz⟩ := I.tuple hs
  rw [Vals.ref1 r]
  have e := each_of hr rv
  have er : PySem.W.EachIs (fun u d => ∃ as, Reads s.heap u (id d) as) its ds := e.mono fun u d ⟨v, h1, h2⟩ => Dp.reads I d v u (Rp.dp (h2.ex ex)) h1
  have hil : its.length ≤ sizeLine := by rw [← Vals.length rv]; exact hz
  refine Calls.call_function_entry PyProof.Rows.kind_sorted PyProof.Rows.plain_sorted PyProof.Rows.entry_sorted (PyProof.Rows.args_sorted1 _) ?_
  unfold Builtin.«sorted»
  refine wpAny_bind (m := checkCount "sorted" 1 1 _) (wpAny_pure ?_)
  refine wpAny_bind (wpAny_collect_seq (items := its.toArray) a (.inr rfl) ho hc hd (fun h' hk => ?_) (by simpa using hil))
  have I1 : Inv X pins σ H { s with heap := h' } := I.kept hk
  show wpAny _ _ _ _ _ { s with heap := h' }
  refine wpAny_bind (wpAny_newList ?_ hil)
  have hoL : (h'.push (seqObj "list" its.toArray 0)).get? h'.objs.size = some (seqObj "list" its.toArray 0) := Heap.get?_push_size _ rfl
  show wpAny _ _ _ _ _ { s with heap := h'.push (seqObj "list" its.toArray 0) }
  have er' : PySem.W.EachIs (fun u d => ∃ as, Reads (PySem.W.sortingHeap (h'.push (seqObj "list" its.toArray 0)) h'.objs.size its) u (id d) as) its ds := er.mono fun u d ⟨as, r⟩ => ⟨as, PyProof.Rows.Reads.keeps (fun b o q => PySem.W.sortingHeap_old (Nat.ne_of_lt (Heap.lt_size (hk b o q))) (Heap.get?_push_of_some _ (hk b o q))) r⟩
  refine wpAny_bind (wpAny_holding (wpAny_call_entry slot_list_sort ⟨_, hoL, rfl⟩ entry_list_sort (PySem.W.list_sort_vals (s := { s with heap := h'.push (seqObj "list" its.toArray 0) }) (κ := PySem.W.dataKind (PySem.W.sortingHeap (h'.push (seqObj "list" its.toArray 0)) h'.objs.size its) (ds.map id)) hoL
    (PySem.W.SortsAt.data (s := { s with heap := PySem.W.sortingHeap (h'.push (seqObj "list" its.toArray 0)) h'.objs.size its }) (PySem.W.each_map (R := fun v d => ∃ as, Reads (PySem.W.sortingHeap (h'.push (seqObj "list" its.toArray 0)) h'.objs.size its) v d as) id er') hp.al hp.so (PySem.W.bound_map fun d hd => ?_)) hil ⟨.none, rfl, ?_⟩) (args_list_sort _)))
  · have := hp.de d hd
    show _ + PyData.depth (id d) < cLine
    show _ + d.depth < cLine
    first
      | omega
      | (show X.A.units + 1 + d.depth < cLine; omega)
      | (show X.A.units + 1 + 1 + d.depth < cLine; omega)
      | (show X.A.units + 1 + 1 + 1 + d.depth < cLine; omega)
  · have ho' := PySem.W.sortVals_data (R := fun u d => ∃ v, RelV v u ∧ Rp X.K Hs v d) (enc := id) false e er' hp.al
    obtain ⟨ys, k1, k2⟩ := of_each ho'
    obtain ⟨e', he'⟩ := PyProof.Rows.sortedHeap_at (vs := its) (out := (PySem.W.sortVals (PySem.W.dataKind (PySem.W.sortingHeap (h'.push (seqObj "list" its.toArray 0)) h'.objs.size its) (ds.map id)) false its its).toArray) hoL
    have hlen : ys.length ≤ sizeLine := by
      rw [Rps.length k2, List.length_mergeSort]
      exact hp.le
    refine wpAny_pure ⟨_, rfl, .ref h'.objs.size, upd H h'.objs.size (.lst ys), I1.laid (t' := s.toks) (fun b u e => ?_) (Nat.le_refl _)
      (show ObjOk X.prog X.w _ _ _ (.lst ys) from ⟨hlen, _, e', k1, he'⟩), rfl, q ys _ k2 (I1.hok.fresh (Nat.le_refl _))⟩
    have hb : b < h'.objs.size := Heap.lt_size e
    show (sortedHeap (h'.push (seqObj "list" its.toArray 0)) h'.objs.size its _).get? b = some u
    rw [PyProof.Rows.sortedHeap_old (Nat.ne_of_lt hb) (by rw [size_push']; exact Nat.lt_succ_of_lt hb)]
    exact Heap.get?_push_of_some _ e
end
section
variable {X : Cx} {E : XQ} {o : Expr} {pos p : Pos} {m : M D}
/-- sorted of a tuple -/
def mSortTu (m : M D) : M D := mBind m fun d => mOpt (match d with
  | .tuple ds => if sortB ds then some (.list (sortD ds)) else none
  | _ => none)
theorem je_sortTu (hu : X.A.units + 64 < cLine) (hg : Gl X "sorted") (hm : X.mg "sorted" = none) (hv : bootBuiltins "sorted" = some (.builtin "sorted")) (ho : PE X o (tOf X.K E m))
    (h1 : starEach [o] X.env = (false, eval o X.env) :: starEach [] X.env := by rfl) (hpl : (backTo pos (starEach [] X.env)).any (·.1) = false := by rfl) : PE X (.Call (.Name "sorted" p) [o] [] pos) (tOf X.K E (mSortTu m)) :=
  pe_imp (pe_callB (cr_sortTup hu) hg hm hv (pa_cons ho pa_nil h1) (by decide) (by decide) h1 hpl) fun σ H Q ⟨G, g, δ, re, po⟩ => by
    show tOf X.K E m σ H fun v H1 => rSortTup X.K [v] H1 Q
    refine tOf.step re po fun v d g1 H1 δ1 e1 re1 r1 po1 => ?_
    obtain ⟨c, hc, po2⟩ := Post.opt po1
    cases r1 with
    | @tup a xs ds q t =>
      dsimp only at hc
      split at hc
      · rename_i hb
        cases hc
        exact ⟨g1.h, a, xs, ds, rfl, re1.ex, sqT_ex re1.ex q, t, sortB_p hb, fun ys b hy hb' => Post.grow po2 re1 (Grw.new re1.ex hb') _ (.lst (SqL.of upd_same) (Rps.ex (Gr.new re1.ex hb').s hy))⟩
      · cases hc
    | _ => cases hc
end
section
variable {e : Ev} {s : St} {m : M D} {Y : Exn → Ev → St → Prop}
theorem run_sortTu {Q : D → Ev → St → Prop} (h : RunX Y m e s fun d e1 s1 => ∃ ds, d = .tuple ds ∧ sortB ds = true ∧ Q (.list (sortD ds)) e1 s1) : RunX Y (mSortTu m) e s Q :=
  run_bind (h.mono fun d _ _ ⟨ds, h1, h2, h3⟩ => run_opt ⟨.list (sortD ds), by subst h1; dsimp only; rw [if_pos h2], h3⟩)
instance {Q : D → Ev → St → Prop} : Step (RunX Y (mSortTu m) e s Q) (RunX Y m e s fun d e1 s1 => ∃ ds, d = .tuple ds ∧ sortB ds = true ∧ Q (.list (sortD ds)) e1 s1) := ⟨run_sortTu⟩
theorem run_augFM {c f : Str} {ml : M Nat} {F : Int → Int → Int} {Q : Fl → Ev → St → Prop} (h : RunX Y ml e s fun l e1 s1 => ∃ fs i, s1[l]? = some (.ins c fs) ∧ fs.lookup f = some (.sh (.int i)) ∧ RunX Y m e1 s1 fun d e2 s2 => ∃ k fs2, d = .int k ∧ s2[l]? = some (.ins c fs2) ∧ fs2.length < 1000 ∧ Q .nx e2 (s2.set l (.ins c (putFC f (.sh (.int (F i k))) fs2)))) : RunX Y (mAugFM c ml f F m) e s Q := by
  unfold mAugFM
  refine run_bind (h.mono fun l e1 s1 ⟨fs, i, h1, h2, h3⟩ => ?_)
  have h4 := run_bind (f := fun d (δ' : Sx) => match d with
      | .int k => (match δ'.s[l]? with
        | some (.ins c2 fs2) => if c2 = c ∧ fs2.length < 1000 then .ok .nx ⟨δ'.e, δ'.s.set l (.ins c (putFC f (.sh (.int (F i k))) fs2))⟩ else .bad
        | _ => .bad)
      | _ => .bad) (Q := Q) (h3.mono fun d e2 s2 ⟨k, fs2, g1, g2, g3, g4⟩ => Run.i (by
    subst g1
    dsimp only
    rw [g2]
    dsimp only
    rw [if_pos ⟨rfl, g3⟩]
    exact g4))
  refine Run.i ?_
  dsimp only
  rw [h1]
  dsimp only
  rw [if_pos rfl, h2]
  unfold RunX at h4
  exact h4
instance {c f : Str} {ml : M Nat} {F : Int → Int → Int} {Q : Fl → Ev → St → Prop} : Step (RunX Y (mAugFM c ml f F m) e s Q) (RunX Y ml e s fun l e1 s1 => ∃ fs i, s1[l]? = some (.ins c fs) ∧ fs.lookup f = some (.sh (.int i)) ∧ RunX Y m e1 s1 fun d e2 s2 => ∃ k fs2, d = .int k ∧ s2[l]? = some (.ins c fs2) ∧ fs2.length < 1000 ∧ Q .nx e2 (s2.set l (.ins c (putFC f (.sh (.int (F i k))) fs2)))) := ⟨run_augFM⟩
end
end Ds
namespace Ds.K41
open PySem PySem.Spec PyProof.Rows L2 Dn
def c_LETTERS_inplace : D := (PyData.str "abcdefghijklmnopqrstuvwxyz")
def c_LETTERS_names : D := (PyData.str "abcdefghijklmnopqrstuvwxyz")
def c_LONGEST : D := (PyData.int 8)
def c_MOST_WORDS : D := (PyData.int 300)
def c_TONGUE : D := (PyData.tuple [(PyData.str "take"), (PyData.str "ask"), (PyData.str "number"), (PyData.str "copy"), (PyData.str "mix"), (PyData.str "open"), (PyData.str "tell"), (PyData.str "wipe"), (PyData.str "clear"), (PyData.str "drop"), (PyData.str "choose"), (PyData.str "loop"), (PyData.str "out"), (PyData.str "risk"), (PyData.str "fault"), (PyData.str "call"), (PyData.str "back"), (PyData.str "def"), (PyData.str "main")])
def k_MANY_BOXES : List Str := ["ask", "copy", "mix", "open", "tell", "wipe"]
def m_is_name : M Fl := (mSeq (mIfS (mOrT (mNotT (mTest (mIsi "str" (mVar 0)))) (mOrT (mNotT (mTest (mChain dLe dLe (mC (PyData.int 1)) (mCallB bLen [(mSh (mVar 0))]) (mC c_LONGEST)))) (mTest (mBin dIn (mVar 0) (mC c_TONGUE))))) (mRet (mSh (mC (PyData.bool false)))) mNx)
  (mRet (mSh (mCallB (bBools fun bs => bs.all id) [(mSh (mFr (mComp (mIter (mVar 0)) [1] (mgName 1) mYes (mBin dIn (mVar 1) (mC c_LETTERS_names)))))]))))
def f_is_name : Fn := fnF 1 2 m_is_name
def m_first_name : M Fl := (mRet (mSh (mBin dIx (mM1 sSplit (mVar 0) (mC (PyData.str "."))) (mC (PyData.int 0)))))
def f_first_name : Fn := fnF 1 1 m_first_name
def m_rows_in : M Fl := (mSeq (mIfS (mTest (mBin dEq (mBin dIx (mVar 0) (mC (PyData.int 0))) (mC (PyData.str "choose")))) (mRet (mSh (mBin dIx (mVar 0) (mC (PyData.int 1))))) mNx)
  (mSeq (mIfS (mTest (mBin dEq (mBin dIx (mVar 0) (mC (PyData.int 0))) (mC (PyData.str "loop")))) (mRet (mSh (mTup [(mSh (mBin dIx (mVar 0) (mC (PyData.int 1))))]))) mNx)
  (mRet (mSh (mTup [])))))
def f_rows_in : Fn := fnF 1 1 m_rows_in
def m_def_of : M Fl := (mSeq (mFor (mIter (mBin dIx (mVar 0) (mC (PyData.int 0)))) (mgName 2) (mIfS (mTest (mBin dEq (mBin dIx (mVar 2) (mC (PyData.int 0))) (mVar 1))) (mRet (mSh (mVar 2))) mNx))
  (mRet (mSh (mC PyData.none))))
def f_def_of : Fn := fnF 2 3 m_def_of
def m_boxes_of : M Fl := (mSeq (mIfS (mTest (mBin dEq (mBin dIx (mVar 0) (mC (PyData.int 0))) (mC (PyData.str "call")))) (mRet (mSh (mBin dAdd (mBin dIx (mVar 0) (mC (PyData.int 2))) (mBin dIx (mVar 0) (mC (PyData.int 3)))))) mNx)
  (mSeq (mIfS (mTest (mBin dEq (mBin dIx (mVar 0) (mC (PyData.int 0))) (mC (PyData.str "drop")))) (mRet (mSh (mBin dIx (mVar 0) (mC (PyData.int 1))))) mNx)
  (mSeq (mIfS (mTest (mKIn false k_MANY_BOXES (mBin dIx (mVar 0) (mC (PyData.int 0))))) (mRet (mSh (mSl (mVar 0) (mPart (mC (PyData.int 1))) mNoPart))) mNx)
  (mSeq (mIfS (mTest (mBin dIn (mBin dIx (mVar 0) (mC (PyData.int 0))) (mTup [(mSh (mC (PyData.str "take"))), (mSh (mC (PyData.str "number")))]))) (mRet (mSh (mSl (mVar 0) (mPart (mC (PyData.int 1))) (mPart (mC (PyData.int 2)))))) mNx)
  (mRet (mSh (mTup [])))))))
def f_boxes_of : Fn := fnF 1 1 m_boxes_of
def m_boxes_in (r : Nat → Fn) : M Fl := (mSeq (mSet 1 (mLo (mNew (mLsO []))))
  (mSeq (mFor (mIter (mVar 0)) (mgName 2) (mSeq (mExt (mLV 1) (mSh (mD (mCall f_boxes_of [(mSh (mVar 2))]))))
  (mFor (mIter (mD (mCall f_rows_in [(mSh (mVar 2))]))) (mgName 3) (mExt (mLV 1) (mSh (mD (mCall (r 0) [(mSh (mVar 3))])))))))
  (mRet (mSh (mCallB bTuple [(mSh (mTexts (fun l => .list ((sortT l).map PyData.str)) (mLo (mLV 1))))])))))
def f_G5 : Nat → Nat → Fn
  | 0, _ => fun _ _ => .bad
  | k + 1, _ => fnF 1 4 (m_boxes_in (f_G5 k))
def f_boxes_in : Fn := f_G5 14 0
def m_names_in (r : Nat → Fn) : M Fl := (mSeq (mSet 1 (mLo mDNew))
  (mSeq (mFor (mIter (mD (mCall f_boxes_in [(mSh (mVar 0))]))) (mgName 2) (mDPut (mLV 1) (mD (mCall f_first_name [(mSh (mVar 2))])) (mSh (mC (PyData.bool true)))))
  (mSeq (mFor (mIter (mVar 0)) (mgName 3) (mSeq (mIfS (mTest (mBin dEq (mBin dIx (mVar 3) (mC (PyData.int 0))) (mC (PyData.str "clear")))) (mDPut (mLV 1) (mBin dIx (mVar 3) (mC (PyData.int 1))) (mSh (mC (PyData.bool true)))) mNx)
  (mFor (mIter (mD (mCall f_rows_in [(mSh (mVar 3))]))) (mgName 4) (mUpd (mLV 1) (mL (mCall (r 0) [(mSh (mVar 4))]))))))
  (mRet (mLo (mLV 1))))))
def f_G6 : Nat → Nat → Fn
  | 0, _ => fun _ _ => .bad
  | k + 1, _ => fnF 1 5 (m_names_in (f_G6 k))
def f_names_in : Fn := f_G6 14 0
def m_names_within : M Fl := (mSeq (mSet 1 (mLo mDNew))
  (mSeq (mSet 2 (mLo (mNew (mLsO [(mSh (mVar 0))]))))
  (mSeq (mWhile (mTest (mBinC dNe (mLo (mLV 2)) (mSh (mLst [])))) (mSeq (mSet 3 (mSh (mD (mPop0 (mLV 2)))))
  (mIfS (mTest (mIsi "tuple" (mVar 3))) (mExt (mLV 2) (mSh (mCallB bList [(mSh (mVar 3))]))) (mIfS (mTest (mIsi "str" (mVar 3))) (mFor (mIter (mM1 sSplit (mVar 3) (mC (PyData.str ".")))) (mgName 4) (mDPut (mLV 1) (mVar 4) (mSh (mC (PyData.bool true))))) mNx))) 1000000)
  (mRet (mLo (mLV 1))))))
def f_names_within : Fn := fnF 1 5 m_names_within
def m_name_by : M Fl := (mSeq (mSet 1 (mSh (mC (PyData.str ""))))
  (mSeq (mFor (mRng1 (mC (PyData.int 4))) (mgName 2) (mSeq (mSet 1 (mSh (mBin dAdd (mBin dIx (mC c_LETTERS_inplace) (mBin dMod (mVar 0) (mCallB bLen [(mSh (mC c_LETTERS_inplace))]))) (mVar 1))))
  (mSet 0 (mSh (mBin dDiv (mVar 0) (mCallB bLen [(mSh (mC c_LETTERS_inplace))]))))))
  (mRet (mSh (mBin dAdd (mC (PyData.str "q")) (mVar 1))))))
def f_name_by : Fn := fnF 1 3 m_name_by
def m_renamed : M Fl := (mSeq (mSet 2 (mLo (mNew (mLsO []))))
  (mSeq (mFor (mIter (mVar 0)) (mgName 3) (mSeq (mSet 4 (mSh (mD (mCall f_first_name [(mSh (mVar 3))]))))
  (mApp (mLV 2) (mSh (mBin dAdd (mD (mDGet2 (mLV 1) (mVar 4) (mSh (mVar 4)))) (mSl (mVar 3) (mPart (mCallB bLen [(mSh (mVar 4))])) mNoPart))))))
  (mRet (mSh (mTupOf (mLo (mLV 2)))))))
def f_renamed : Fn := fnF 2 5 m_renamed
def m_Placing___init__ : M Fl := (mSeq (mSetF "Placing" (mLV 0) "whole" (mSh (mVar 1)))
  (mSeq (mSetF "Placing" (mLV 0) "standing" (mLo (mL (mCall f_names_within [(mSh (mVar 1))]))))
  (mSeq (mSetF "Placing" (mLV 0) "names_made" (mSh (mC (PyData.int 0))))
  (mSetF "Placing" (mLV 0) "words_made" (mSh (mC (PyData.int 0)))))))
def f_Placing___init__ : Fn := fnF 2 2 m_Placing___init__
def m_Placing_fresh_name : M Fl := (mSeq (mSet 1 (mSh (mC (PyData.str ""))))
  (mSeq (mWhile (mOrT (mNotT (mTest (mD (mCall f_is_name [(mSh (mVar 1))])))) (mTest (mDIn false (mVar 1) (mL (mFld "Placing" (mLV 0) "standing"))))) (mSeq (mSet 1 (mSh (mD (mCall f_name_by [(mSh (mD (mFld "Placing" (mLV 0) "names_made")))]))))
  (mAugF "Placing" (mLV 0) "names_made" (fun i j => i + j) 1)) 1000000)
  (mRet (mSh (mVar 1)))))
def f_Placing_fresh_name : Fn := fnF 1 2 m_Placing_fresh_name
def m_Placing_tally : M Fl := (mSeq (mAugFM "Placing" (mLV 0) "words_made" (fun i j => i + j) (mVar 1))
  (mIfS (mTest (mBin dGt (mD (mFld "Placing" (mLV 0) "words_made")) (mC c_MOST_WORDS))) (mRaise "TooLong") mNx))
def f_Placing_tally : Fn := fnF 2 2 m_Placing_tally
def m_Placing_put_leaving : M Fl := (mSeq (mAsg (mgTup 2 (mgCons (mgName 4) (mgCons (mgName 5) mgNil))) (mSh (mVar 1)))
  (mSeq (mSet 3 (mLo (mNew (mCatO (mSh (mFr (mComp (mIter (mVar 4)) [6, 7] (mgTup 2 (mgCons (mgName 6) (mgCons (mgName 7) mgNil))) mYes (mTup [(mSh (mC (PyData.str "copy"))), (mSh (mVar 7)), (mSh (mVar 6))])))) (mSh (mFr (mComp (mIter (mVar 4)) [6, 7] (mgTup 2 (mgCons (mgName 6) (mgCons (mgName 7) mgNil))) mYes (mTup [(mSh (mC (PyData.str "wipe"))), (mSh (mVar 6))]))))))))
  (mSeq (mIfS (mTest (mBin dNe (mVar 5) (mTup []))) (mApp (mLV 3) (mSh (mTup [(mSh (mC (PyData.str "drop"))), (mSh (mVar 5))]))) mNx)
  (mSeq (mApp (mLV 3) (mSh (mTup [(mSh (mC (PyData.str "out"))), (mSh (mBin dAdd (mVar 2) (mC (PyData.int 1))))])))
  (mSeq (mExpr (mSh (mD (mMethX "Placing" "tally" f_Placing_tally (mLV 0) [(mSh (mCallC bLen [(mLo (mLV 3))]))]))))
  (mRet (mSh (mSeal (mLV 3)))))))))
def f_Placing_put_leaving : Fn := fnF 3 8 m_Placing_put_leaving
def m_Placing_put_row (r : Nat → Fn) : M Fl := (mSeq (mSet 5 (mLo (mNew (mLsO []))))
  (mSeq (mFor (mIter (mVar 1)) (mgName 6) (mExt (mLV 5) (mSh (mD (mMethX "Placing" "put_word" (r 1) (mLV 0) [(mSh (mVar 6)), (mLo (mLV 2)), (mSh (mVar 3)), (mSh (mVar 4))])))))
  (mRet (mSh (mTupOf (mLo (mLV 5)))))))
def m_Placing_put_word (r : Nat → Fn) : M Fl := (mSeq (mIfS (mTest (mBin dEq (mBin dIx (mVar 1) (mC (PyData.int 0))) (mC (PyData.str "call")))) (mRet (mSh (mLst [(mSh (mD (mMethX "Placing" "put_call" (r 2) (mLV 0) [(mSh (mBin dIx (mVar 1) (mC (PyData.int 1)))), (mSh (mD (mCall f_renamed [(mSh (mBin dIx (mVar 1) (mC (PyData.int 2)))), (mLo (mLV 2))]))), (mSh (mD (mCall f_renamed [(mSh (mBin dIx (mVar 1) (mC (PyData.int 3)))), (mLo (mLV 2))])))])))]))) mNx)
  (mSeq (mIfS (mAndT (mTest (mBin dEq (mBin dIx (mVar 1) (mC (PyData.int 0))) (mC (PyData.str "back")))) (mTest (mBin dIsNot (mVar 3) (mC PyData.none)))) (mRet (mSh (mD (mMethX "Placing" "put_leaving" f_Placing_put_leaving (mLV 0) [(mSh (mVar 3)), (mSh (mVar 4))])))) mNx)
  (mSeq (mExpr (mSh (mD (mMethX "Placing" "tally" f_Placing_tally (mLV 0) [(mSh (mC (PyData.int 1)))]))))
  (mSeq (mIfS (mTest (mBin dEq (mBin dIx (mVar 1) (mC (PyData.int 0))) (mC (PyData.str "choose")))) (mRet (mSh (mLst [(mSh (mTup [(mSh (mC (PyData.str "choose"))), (mSh (mCallB bTuple [(mSh (mFr (mComp (mIter (mBin dIx (mVar 1) (mC (PyData.int 1)))) [5] (mgName 5) mYes (mD (mMethX "Placing" "put_row" (r 0) (mLV 0) [(mSh (mVar 5)), (mLo (mLV 2)), (mSh (mVar 3)), (mSh (mVar 4))])))))]))]))]))) mNx)
  (mSeq (mIfS (mTest (mBin dEq (mBin dIx (mVar 1) (mC (PyData.int 0))) (mC (PyData.str "loop")))) (mRet (mSh (mLst [(mSh (mTup [(mSh (mC (PyData.str "loop"))), (mSh (mD (mMethX "Placing" "put_row" (r 0) (mLV 0) [(mSh (mBin dIx (mVar 1) (mC (PyData.int 1)))), (mLo (mLV 2)), (mSh (mVar 3)), (mSh (mBin dAdd (mVar 4) (mC (PyData.int 1))))])))]))]))) mNx)
  (mSeq (mIfS (mTest (mBin dEq (mBin dIx (mVar 1) (mC (PyData.int 0))) (mC (PyData.str "drop")))) (mRet (mSh (mLst [(mSh (mTup [(mSh (mC (PyData.str "drop"))), (mSh (mD (mCall f_renamed [(mSh (mBin dIx (mVar 1) (mC (PyData.int 1)))), (mLo (mLV 2))])))]))]))) mNx)
  (mSeq (mIfS (mTest (mBin dEq (mBin dIx (mVar 1) (mC (PyData.int 0))) (mC (PyData.str "clear")))) (mRet (mSh (mLst [(mSh (mTup [(mSh (mC (PyData.str "clear"))), (mSh (mD (mDGet2 (mLV 2) (mBin dIx (mVar 1) (mC (PyData.int 1))) (mSh (mBin dIx (mVar 1) (mC (PyData.int 1)))))))]))]))) mNx)
  (mSeq (mIfS (mTest (mBin dIn (mBin dIx (mVar 1) (mC (PyData.int 0))) (mTup [(mSh (mC (PyData.str "out"))), (mSh (mC (PyData.str "risk"))), (mSh (mC (PyData.str "fault"))), (mSh (mC (PyData.str "back")))]))) (mRet (mSh (mLst [(mSh (mVar 1))]))) mNx)
  (mSeq (mIfS (mTest (mBin dIn (mBin dIx (mVar 1) (mC (PyData.int 0))) (mTup [(mSh (mC (PyData.str "take"))), (mSh (mC (PyData.str "number")))]))) (mRet (mSh (mLst [(mSh (mBin dAdd (mBin dAdd (mTup [(mSh (mBin dIx (mVar 1) (mC (PyData.int 0))))]) (mD (mCall f_renamed [(mSh (mSl (mVar 1) (mPart (mC (PyData.int 1))) (mPart (mC (PyData.int 2))))), (mLo (mLV 2))]))) (mSl (mVar 1) (mPart (mC (PyData.int 2))) mNoPart)))]))) mNx)
  (mRet (mSh (mLst [(mSh (mBin dAdd (mTup [(mSh (mBin dIx (mVar 1) (mC (PyData.int 0))))]) (mD (mCall f_renamed [(mSh (mSl (mVar 1) (mPart (mC (PyData.int 1))) mNoPart)), (mLo (mLV 2))]))))]))))))))))))
def m_Placing_put_call (r : Nat → Fn) : M Fl := (mSeq (mAsg (mgTup 4 (mgCons (mgName 11) (mgCons (mgName 12) (mgCons (mgName 13) (mgCons (mgName 14) mgNil))))) (mSh (mD (mCall f_def_of [(mSh (mD (mFld "Placing" (mLV 0) "whole"))), (mSh (mVar 1))]))))
  (mSeq (mSet 4 (mSh (mCallB bTuple [(mSh (mTexts (fun l => .list ((sortT l).map PyData.str)) (mSh (mBin dAdd (mBin dAdd (mD (mCall f_boxes_in [(mSh (mVar 14))])) (mVar 12)) (mVar 13)))))])))
  (mSeq (mSet 5 (mLo mDNew))
  (mSeq (mFor (mIter (mSortL (mBin dAdd (mFr (mListD (mL (mCall f_names_in [(mSh (mVar 14))])))) (mFr (mComp (mIter (mVar 4)) [17] (mgName 17) mYes (mD (mCall f_first_name [(mSh (mVar 17))]))))))) (mgName 6) (mIfS (mTest (mDIn true (mVar 6) (mLV 5))) (mDPut (mLV 5) (mVar 6) (mSh (mD (mMeth "Placing" "fresh_name" f_Placing_fresh_name (mLV 0) [])))) mNx))
  (mSeq (mSet 7 (mSh (mCallB bTuple [(mSh (mSortTu (mD (mCall f_renamed [(mSh (mCallB bTuple [(mSh (mFr (mComp (mIter (mVar 4)) [17] (mgName 17) (mTest (mBin dNotIn (mVar 17) (mVar 13))) (mVar 17))))])), (mLo (mLV 5))]))))])))
  (mSeq (mSet 8 (mSh (mTup [(mSh (mTupZip (mD (mCall f_renamed [(mSh (mVar 13)), (mLo (mLV 5))])) (mVar 3))), (mSh (mVar 7))])))
  (mSeq (mSet 9 (mSh (mFr (mComp (mZip (mD (mCall f_renamed [(mSh (mVar 12)), (mLo (mLV 5))])) (mVar 2)) [15, 16] (mgTup 2 (mgCons (mgName 15) (mgCons (mgName 16) mgNil))) mYes (mTup [(mSh (mC (PyData.str "copy"))), (mSh (mVar 15)), (mSh (mVar 16))])))))
  (mSeq (mSet 9 (mSh (mBin dAdd (mVar 9) (mFr (mComp (mIter (mVar 2)) [16] (mgName 16) mYes (mTup [(mSh (mC (PyData.str "wipe"))), (mSh (mVar 16))]))))))
  (mSeq (mExpr (mSh (mD (mMethX "Placing" "tally" f_Placing_tally (mLV 0) [(mSh (mBin dAdd (mC (PyData.int 1)) (mCallB bLen [(mSh (mVar 9))])))]))))
  (mSeq (mSet 10 (mSh (mD (mMethX "Placing" "put_row" (r 0) (mLV 0) [(mSh (mVar 14)), (mLo (mLV 5)), (mSh (mVar 8)), (mSh (mC (PyData.int 0)))]))))
  (mRet (mSh (mTup [(mSh (mC (PyData.str "loop"))), (mSh (mBin dAdd (mBin dAdd (mCallB bTuple [(mSh (mVar 9))]) (mVar 10)) (mCallB bTuple [(mSh (mD (mMethX "Placing" "put_leaving" f_Placing_put_leaving (mLV 0) [(mSh (mVar 8)), (mSh (mC (PyData.int 0)))])))])))])))))))))))))
def f_G14 : Nat → Nat → Fn
  | 0, _ => fun _ _ => .bad
  | k + 1, 0 => fnF 5 7 (m_Placing_put_row (f_G14 k)) | k + 1, 1 => fnF 5 6 (m_Placing_put_word (f_G14 k)) | k + 1, _ => fnF 4 18 (m_Placing_put_call (f_G14 k))
def f_Placing_put_row : Fn := f_G14 14 0
def m_in_place : M Fl := (mSeq (mSet 1 (mLo (mMake "Placing" f_Placing___init__ [(mSh (mVar 0))])))
  (mRet (mSh (mTup [(mSh (mTup [])), (mSh (mD (mMethX "Placing" "put_row" f_Placing_put_row (mLV 1) [(mSh (mBin dIx (mVar 0) (mC (PyData.int 1)))), (mLo mDNew), (mSh (mC PyData.none)), (mSh (mC (PyData.int 0)))])))]))))
def f_in_place : Fn := fnF 1 2 m_in_place
def m__law_deck : M Fl := (mSeq (mSet 2 (mSh (mC (PyData.int 0))))
  (mSeq (mIfS (mTest (mBin dLt (mVar 1) (mCallB bLen [(mSh (mVar 0))]))) (mSet 2 (mSh (mBin dIx (mVar 0) (mVar 1)))) mNx)
  (mRet (mLo (mNew (mLsO [(mSh (mBin dMul (mVar 2) (mCallB bInt [(mSh (mBin dGe (mVar 2) (mBin dPow (mC (PyData.int 10)) (mC (PyData.int 18)))))]))), (mSh (mBin dMod (mVar 2) (mC (PyData.int 2147483647)))), (mSh (mC (PyData.int 0)))]))))))
def f__law_deck : Fn := fnF 2 3 m__law_deck
def m__law_draw : M Fl := (mSeq (mIfS (mTest (mBin dGt (mD (mIxC (mLo (mLV 0)) (mC (PyData.int 0)))) (mC (PyData.int 0)))) (mSeq (mSet 3 (mSh (mBin dMod (mD (mIxC (mLo (mLV 0)) (mC (PyData.int 0)))) (mVar 1))))
  (mSeq (mSetIx (mLV 0) (mC (PyData.int 0)) (mSh (mBin dDiv (mD (mIxC (mLo (mLV 0)) (mC (PyData.int 0)))) (mVar 1))))
  (mRet (mSh (mVar 3))))) mNx)
  (mSeq (mSetIx (mLV 0) (mC (PyData.int 2)) (mSh (mBin dAdd (mD (mIxC (mLo (mLV 0)) (mC (PyData.int 2)))) (mC (PyData.int 1)))))
  (mSeq (mSet 2 (mSh (mBin dMod (mBin dMul (mBin dAdd (mBin dAdd (mD (mIxC (mLo (mLV 0)) (mC (PyData.int 1)))) (mBin dMul (mBin dMul (mC (PyData.int 7919)) (mD (mIxC (mLo (mLV 0)) (mC (PyData.int 2))))) (mD (mIxC (mLo (mLV 0)) (mC (PyData.int 2)))))) (mC (PyData.int 31))) (mC (PyData.int 48271))) (mC (PyData.int 2147483647)))))
  (mRet (mSh (mBin dMod (mBin dDiv (mBin dMod (mBin dMul (mVar 2) (mBin dAdd (mVar 2) (mC (PyData.int 69621)))) (mC (PyData.int 2147483629))) (mC (PyData.int 8))) (mVar 1)))))))
def f__law_draw : Fn := fnF 2 4 m__law_draw
def m__law_names : M Fl := (mSeq (mSet 2 (mSh (mC (PyData.str "abcdefghijklmnopqrstuvwxyz"))))
  (mSeq (mSet 3 (mLo (mNew (mComp (mRng1 (mBin dAdd (mC (PyData.int 1)) (mD (mCall f__law_draw [(mLo (mLV 0)), (mSh (mC (PyData.int 6)))])))) [8] (mgName 8) mYes (mBin dIx (mVar 2) (mD (mCall f__law_draw [(mLo (mLV 0)), (mSh (mC (PyData.int 26)))])))))))
  (mSeq (mSet 4 (mSh (mD (mCall f__law_draw [(mLo (mLV 0)), (mSh (mCallC bLen [(mLo (mLV 3))]))]))))
  (mSeq (mSet 5 (mSh (mD (mCall f__law_draw [(mLo (mLV 0)), (mSh (mC (PyData.int 26)))]))))
  (mSeq (mSet 6 (mSh (mD (mCall f__law_draw [(mLo (mLV 0)), (mSh (mC (PyData.int 2)))]))))
  (mSeq (mSet 7 (mLo (mNew (mLsO []))))
  (mSeq (mFor (mRng1 (mVar 1)) (mgName 8) (mSeq (mSetIx (mLV 3) (mVar 4) (mSh (mBin dIx (mVar 2) (mBin dMod (mBin dAdd (mVar 5) (mVar 8)) (mC (PyData.int 26))))))
  (mApp (mLV 7) (mSh (mBin dAdd (mBin dAdd (mC (PyData.str "q")) (mM1C sJoin (mC (PyData.str "")) (mLo (mLV 3)))) (mBin dMul (mC (PyData.str "z")) (mBin dMul (mBin dMod (mVar 8) (mC (PyData.int 2))) (mVar 6))))))))
  (mRet (mSh (mSeal (mLV 7)))))))))))
def f__law_names : Fn := fnF 2 9 m__law_names
def m__law_counted (r : Nat → Fn) : M Fl := (mSeq (mSet 1 (mSh (mCallB bLen [(mSh (mVar 0))])))
  (mSeq (mFor (mIter (mVar 0)) (mgName 2) (mSeq (mIfS (mTest (mBin dEq (mBin dIx (mVar 2) (mC (PyData.int 0))) (mC (PyData.str "loop")))) (mSet 1 (mSh (mBin dAdd (mVar 1) (mD (mCall (r 0) [(mSh (mBin dIx (mVar 2) (mC (PyData.int 1))))]))))) mNx)
  (mIfS (mTest (mBin dEq (mBin dIx (mVar 2) (mC (PyData.int 0))) (mC (PyData.str "choose")))) (mSet 1 (mSh (mBin dAdd (mVar 1) (mCallB bSum [(mSh (mFr (mComp (mIter (mBin dIx (mVar 2) (mC (PyData.int 1)))) [3] (mgName 3) mYes (mD (mCall (r 0) [(mSh (mVar 3))])))))])))) mNx)))
  (mRet (mSh (mVar 1)))))
def f_G19 : Nat → Nat → Fn
  | 0, _ => fun _ _ => .bad
  | k + 1, _ => fnF 1 4 (m__law_counted (f_G19 k))
def f__law_counted : Fn := f_G19 14 0
def m__law_told : M Fl := (mSeq (mSet 1 (mSh (mC (PyData.str "other"))))
  (mSeq (mTryAs 2 (hitOf [("TooLong", true)]) (mSet 1 (mSh (mD (mCall f__law_counted [(mSh (mBin dIx (mD (mCallX f_in_place [(mSh (mVar 0))])) (mC (PyData.int 1))))])))) (msIf "TooLong" (fun num => (mSeq (mSet 3 (mSh (mOrV (mIsB (some false)) (mOrV (mIsB (some false)) (mOrV (mIsB (some false)) (mIsB (some false)))))))
  (mIfS (mAndT (mTest (mIsB (some true))) (mAndT (mTest (mIsB (some true))) (mAndT (mNotT (mTest (mVar 3))) (mNotT (mTest (mIsB (some false))))))) (mSet 1 (mSh (mC (PyData.str "long")))) mNx))) msBad))
  (mRet (mSh (mVar 1)))))
def f__law_told : Fn := fnF 1 4 m__law_told
def m__law_program : M Fl := (mSeq (mAsg (mgTup 3 (mgCons (mgName 12) (mgCons (mgName 13) (mgCons (mgName 14) mgNil)))) (mSh (mVar 1)))
  (mSeq (mAsg (mgLst 2 (mgCons (mgName 15) (mgCons (mgName 16) mgNil))) (mSh (mSl (mVar 0) mNoPart (mPart (mC (PyData.int 2))))))
  (mSeq (mSet 4 (mSh (mBin dMulN (mTup [(mSh (mVar 15))]) (mVar 2))))
  (mSeq (mSet 5 (mSh (mBin dMulN (mTup [(mSh (mVar 16))]) (mVar 2))))
  (mSeq (mSet 6 (mSh (mTup [(mSh (mTup [(mSh (mC (PyData.str "loop"))), (mSh (mTup [(mSh (mTup [(mSh (mC (PyData.str "out"))), (mSh (mC (PyData.int 1)))]))]))]))])))
  (mSeq (mSet 7 (mSh (mTup [(mSh (mBin dIx (mVar 0) (mC (PyData.int 2)))), (mSh (mVar 4)), (mSh (mVar 4)), (mSh (mBin dAdd (mBin dMulN (mTup [(mSh (mTup [(mSh (mC (PyData.str "tell"))), (mSh (mVar 15))]))]) (mVar 12)) (mVar 6)))])))
  (mSeq (mSet 8 (mSh (mTup [(mSh (mTup [(mSh (mC (PyData.str "choose"))), (mSh (mTup [(mSh (mTup [(mSh (mTup [(mSh (mC (PyData.str "back")))]))])), (mSh (mTup []))]))]))])))
  (mSeq (mSet 9 (mSh (mTup [(mSh (mBin dIx (mVar 0) (mC (PyData.int 3)))), (mSh (mTup [])), (mSh (mTup [])), (mSh (mBin dAdd (mVar 8) (mBin dMulN (mTup [(mSh (mTup [(mSh (mC (PyData.str "call"))), (mSh (mBin dIx (mVar 0) (mC (PyData.int 2)))), (mSh (mVar 4)), (mSh (mVar 5))]))]) (mVar 13))))])))
  (mSeq (mSet 10 (mSh (mBin dAdd (mBin dAdd (mBin dAdd (mC (PyData.int 1)) (mVar 12)) (mC (PyData.int 2))) (mIfE (mTest (mBin dEq (mVar 2) (mC (PyData.int 0)))) (mC (PyData.int 2)) (mBin dAdd (mC (PyData.int 2)) (mC (PyData.int 3)))))))
  (mSeq (mSet 11 (mSh (mBin dAdd (mBin dAdd (mBin dAdd (mC (PyData.int 1)) (mC (PyData.int 1))) (mBin dMul (mVar 13) (mVar 10))) (mBin dMul (mC (PyData.int 2)) (mBin dAdd (mC (PyData.int 1)) (mVar 2))))))
  (mSeq (mSet 8 (mSh (mBin dAdd (mVar 6) (mBin dMulN (mTup [(mSh (mTup [(mSh (mC (PyData.str "wipe"))), (mSh (mVar 16))]))]) (mBin dSub (mBin dAdd (mC (PyData.int 298)) (mVar 3)) (mBin dMul (mVar 14) (mVar 11)))))))
  (mRet (mSh (mTup [(mSh (mTup [(mSh (mVar 7)), (mSh (mVar 9))])), (mSh (mBin dAdd (mVar 8) (mBin dMulN (mTup [(mSh (mTup [(mSh (mC (PyData.str "call"))), (mSh (mBin dIx (mVar 0) (mC (PyData.int 3)))), (mSh (mTup [])), (mSh (mTup []))]))]) (mVar 14))))]))))))))))))))
def f__law_program : Fn := fnF 4 17 m__law_program
def m_law : M Fl := (mSeq (mFor (mRng1 (mCallB (bII fun i j => if j > i then j else i) [(mSh (mC (PyData.int 1))), (mSh (mCallB (bII fun i j => if j < i then j else i) [(mSh (mCallB bLen [(mSh (mVar 0))])), (mSh (mC (PyData.int 5)))]))])) (mgName 1) (mSeq (mSet 2 (mLo (mL (mCall f__law_deck [(mSh (mVar 0)), (mSh (mVar 1))]))))
  (mSeq (mSet 3 (mSh (mD (mCall f__law_names [(mLo (mLV 2)), (mSh (mC (PyData.int 4)))]))))
  (mSeq (mSet 4 (mSh (mD (mCall f__law_draw [(mLo (mLV 2)), (mSh (mC (PyData.int 2)))]))))
  (mSeq (mSet 5 (mSh (mBin dIx (mLst [(mSh (mTup [(mSh (mC (PyData.int 8))), (mSh (mC (PyData.int 5))), (mSh (mC (PyData.int 4)))])), (mSh (mTup [(mSh (mC (PyData.int 6))), (mSh (mC (PyData.int 6))), (mSh (mC (PyData.int 4)))])), (mSh (mTup [(mSh (mC (PyData.int 4))), (mSh (mC (PyData.int 6))), (mSh (mC (PyData.int 5)))])), (mSh (mTup [(mSh (mC (PyData.int 12))), (mSh (mC (PyData.int 3))), (mSh (mC (PyData.int 5)))])), (mSh (mTup [(mSh (mC (PyData.int 11))), (mSh (mC (PyData.int 4))), (mSh (mC (PyData.int 4)))]))]) (mD (mCall f__law_draw [(mLo (mLV 2)), (mSh (mC (PyData.int 5)))])))))
  (mSeq (mIfS (mTest (mBin dEq (mVar 4) (mC (PyData.int 1)))) (mSet 5 (mSh (mBin dIx (mLst [(mSh (mTup [(mSh (mC (PyData.int 7))), (mSh (mC (PyData.int 4))), (mSh (mC (PyData.int 4)))])), (mSh (mTup [(mSh (mC (PyData.int 3))), (mSh (mC (PyData.int 6))), (mSh (mC (PyData.int 4)))])), (mSh (mTup [(mSh (mC (PyData.int 8))), (mSh (mC (PyData.int 3))), (mSh (mC (PyData.int 5)))])), (mSh (mTup [(mSh (mC (PyData.int 5))), (mSh (mC (PyData.int 7))), (mSh (mC (PyData.int 3)))]))]) (mD (mCall f__law_draw [(mLo (mLV 2)), (mSh (mC (PyData.int 4)))]))))) mNx)
  (mSeq (mFor (mIter (mLst [(mSh (mTup [(mSh (mC (PyData.int 0))), (mSh (mC (PyData.int 300)))])), (mSh (mTup [(mSh (mC (PyData.int 1))), (mSh (mC (PyData.str "long")))])), (mSh (mTup [(mSh (mBin dAdd (mC (PyData.int 1)) (mD (mCall f__law_draw [(mLo (mLV 2)), (mSh (mC (PyData.int 4)))])))), (mSh (mC (PyData.str "long")))]))])) (mgTup 2 (mgCons (mgName 8) (mgCons (mgName 9) mgNil))) (mSeq (mSet 7 (mSh (mD (mCall f__law_program [(mSh (mVar 3)), (mSh (mVar 5)), (mSh (mVar 4)), (mSh (mVar 8))]))))
  (mIfS (mOrT (mTest (mBin dNe (mD (mCall f__law_told [(mSh (mVar 7))])) (mVar 9))) (mTest (mBin dNe (mD (mCall f__law_told [(mSh (mVar 7))])) (mVar 9)))) (mRet (mSh (mC (PyData.bool false)))) mNx)))
  (mSeq (mSet 6 (mSh (mTup [(mSh (mTup [(mSh (mBin dIx (mVar 3) (mC (PyData.int 2)))), (mSh (mTup [])), (mSh (mTup [])), (mSh (mBin dMulN (mTup [(mSh (mTup [(mSh (mC (PyData.str "tell"))), (mSh (mBin dIx (mVar 3) (mC (PyData.int 0))))]))]) (mC (PyData.int 9))))]))])))
  (mSeq (mSet 6 (mSh (mBin dAdd (mVar 6) (mTup [(mSh (mTup [(mSh (mBin dIx (mVar 3) (mC (PyData.int 3)))), (mSh (mTup [])), (mSh (mTup [])), (mSh (mBin dMulN (mTup [(mSh (mTup [(mSh (mC (PyData.str "call"))), (mSh (mBin dIx (mVar 3) (mC (PyData.int 2)))), (mSh (mTup [])), (mSh (mTup []))]))]) (mC (PyData.int 9))))]))]))))
  (mSeq (mSet 6 (mSh (mBin dAdd (mVar 6) (mTup [(mSh (mTup [(mSh (mC (PyData.str "qlastony"))), (mSh (mTup [])), (mSh (mTup [])), (mSh (mBin dMulN (mTup [(mSh (mTup [(mSh (mC (PyData.str "call"))), (mSh (mBin dIx (mVar 3) (mC (PyData.int 3)))), (mSh (mTup [])), (mSh (mTup []))]))]) (mC (PyData.int 9))))]))]))))
  (mSeq (mSet 7 (mSh (mTup [(mSh (mVar 6)), (mSh (mBin dMulN (mTup [(mSh (mTup [(mSh (mC (PyData.str "call"))), (mSh (mC (PyData.str "qlastony"))), (mSh (mTup [])), (mSh (mTup []))]))]) (mC (PyData.int 9))))])))
  (mIfS (mTest (mBin dNe (mD (mCall f__law_told [(mSh (mVar 7))])) (mC (PyData.str "long")))) (mRet (mSh (mC (PyData.bool false)))) mNx))))))))))))
  (mRet (mSh (mC (PyData.bool true)))))
def f_law : Fn := fnF 1 10 m_law
/-- the law is True at every script: said upon data -/
def Good : Prop := ∀ ns : List Int, ns.length ≤ 63 → ∃ s, f_law [.sh (.list (ns.map PyData.int))] [] = .ok (.sh (.bool true)) s
end Ds.K41
namespace Ds.K41
open PySem PySem.Spec PyProof.Rows L2 Dn TL
/-- a deck at b -/
def Dk (c b : Nat) (s : St) : Prop := ∃ xs : List D, s[b]? = some (.lst (xs.map Cl.sh)) ∧ Dn.St c xs
/-- all others as they were -/
def Fr (b : Nat) (s s' : St) : Prop := s.length ≤ s'.length ∧ ∀ j, j < s.length → j ≠ b → s'[j]? = s[j]?
theorem Dk.lt {c b : Nat} {s : St} (h : Dk c b s) : b < s.length := by
  obtain ⟨xs, h, _⟩ := h
  exact lt_of_at h
theorem Dk.mono {c c' b : Nat} {s : St} (h : Dk c b s) (k : c ≤ c') : Dk c' b s := by
  obtain ⟨xs, h, q⟩ := h
  exact ⟨xs, h, q.mono k⟩
theorem Dk.of {c b : Nat} {s s' : St} (h : Dk c b s) (k : s'[b]? = s[b]?) : Dk c b s' := by
  obtain ⟨xs, h, q⟩ := h
  exact ⟨xs, k.trans h, q⟩
theorem Dk.trim {c b n : Nat} {k : Cl} {s : St} (h : Dk c b s) (hb : b < n) : Dk c b (trim n k s) := h.of (trim_get hb)
theorem Fr.refl (b : Nat) (s : St) : Fr b s s := ⟨Nat.le_refl _, fun _ _ _ => rfl⟩
theorem Fr.trans {b : Nat} {s s1 s2 : St} (h : Fr b s s1) (k : Fr b s1 s2) : Fr b s s2 := ⟨Nat.le_trans h.1 k.1, fun j hj hb => (k.2 j (Nat.lt_of_lt_of_le hj h.1) hb).trans (h.2 j hj hb)⟩
theorem Fr.trim {b : Nat} {c : Cl} {s s' : St} (h : Fr b s s') : Fr b s (trim s.length c s') := ⟨trim_ge h.1, fun j hj hb => (trim_get hj).trans (h.2 j hj hb)⟩
theorem Fr.set {b : Nat} {o : Ob} {s : St} : Fr b s (s.set b o) := ⟨by simp, fun j _ hb => set_other hb⟩
theorem Fr.app {b : Nat} {o : Ob} {s : St} : Fr b s (s ++ [o]) := ⟨by simp, fun j hj _ => app_old hj⟩
/-- any change that is none of the old -/
theorem Fr.put {b l : Nat} {o : Ob} {s0 s : St} (h : Fr b s0 s) (hl : s0.length ≤ l) : Fr b s0 (s.set l o) := ⟨by simpa using h.1, fun j hj hb => (set_other (by omega)).trans (h.2 j hj hb)⟩
theorem Fr.at_ {b l : Nat} {o : Ob} {s s' : St} (h : Fr b s s') (k : s[l]? = some o) (hb : l ≠ b) : s'[l]? = some o := (h.2 l (lt_of_at k) hb).trans k
end Ds.K41
namespace Ds.K41
open PySem PySem.Spec PyProof.Rows L2 Dn TL
theorem draw {c b : Nat} {s : St} {n : Int} {Q : Cl → St → Prop} (hs : Dk c b s) (hc : c ≤ 1000000) (hn : 0 < n ∧ n < 1073741824) (h : ∀ (got : Int) (s' : St), 0 ≤ got → got < n → Dk (c + 1) b s' → Fr b s s' → Q (.sh (.int got)) s') : FRun f__law_draw [.lo b, .sh (.int n)] s Q := by
  have hlt := hs.lt
  obtain ⟨xs, hx, a, d, k, rfl, h1, h2, h3, h4, h5⟩ := hs
  refine frun_fn rfl ?_
  unfold m__law_draw
  repeat walk_at "ds"
  refine ⟨_, ixC_lo hx rfl, ?_⟩
  repeat walk_at "ds"
  refine two_dec (fun h6 => ?_) (fun h6 => ?_)
  · repeat walk_at "ds"
    refine ⟨_, ixC_lo hx rfl, ?_⟩
    repeat walk_at "ds"
    refine ⟨_, ixC_lo hx rfl, ?_⟩
    repeat walk_at "ds"
    refine ⟨_, _, 0, hx, rfl, rfl, ?_⟩
    repeat walk_at "ds"
    refine h _ _ (Int.emod_nonneg _ (by omega)) (Int.emod_lt_of_pos _ hn.1) (Dk.trim ⟨[.int (a / n), .int d, .int k], set_same hlt, _, _, _, rfl, Int.ediv_nonneg h1 (by omega), h2, h3, h4, by omega⟩ hlt) Fr.set.trim
  · repeat walk_at "ds"
    refine ⟨_, ixC_lo hx rfl, ?_⟩
    repeat walk_at "ds"
    refine ⟨_, _, 2, hx, rfl, rfl, ?_⟩
    have hx' : (s.set b (.lst (([.sh (.int a), .sh (.int d), .sh (.int k)] : List Cl).set 2 (.sh (.int (k + 1))))))[b]? = some (.lst [.sh (.int a), .sh (.int d), .sh (.int (k + 1))]) := set_same hlt
    repeat walk_at "ds"
    refine ⟨_, ixC_lo hx' rfl, ?_⟩
    repeat walk_at "ds"
    refine ⟨_, ixC_lo hx' rfl, ?_⟩
    repeat walk_at "ds"
    refine ⟨_, ixC_lo hx' rfl, ?_⟩
    repeat walk_at "ds"
    refine h _ _ (Int.emod_nonneg _ (by omega)) (Int.emod_lt_of_pos _ hn.1) (Dk.trim ⟨[.int a, .int d, .int (k + 1)], set_same hlt, _, _, _, rfl, h1, h2, h3, by omega, by omega⟩ hlt) Fr.set.trim
theorem deck {ns : List Int} {k : Int} {s : St} {Q : Cl → St → Prop} (hk : 0 ≤ k) (h : ∀ st, Dn.St 0 st → Q (.lo s.length) (s ++ [.lst (st.map Cl.sh)])) : FRun f__law_deck [.sh (.list (ns.map PyData.int)), .sh (.int k)] s Q := by
  refine frun_fn rfl ?_
  unfold m__law_deck
  have fin : ∀ v : Int, Q (.lo s.length) (trim s.length (.lo s.length) (s ++ [.lst [.sh (.int (v * if decide (10 ^ Int.toNat 18 ≤ v) = true then 1 else 0)), .sh (.int (v % 2147483647)), .sh (.int 0)]])) := fun v => by
    rw [trim_lo (Nat.le_refl _)]
    refine h [_, _, _] ⟨_, _, _, rfl, ?_, Int.emod_nonneg _ (by omega), Int.emod_lt_of_pos _ (by omega), by omega, by omega⟩
    by_cases q : (10 : Int) ^ (18 : Int).toNat ≤ v
    · rw [decide_eq_true q]
      have : (0 : Int) ≤ 10 ^ (18 : Int).toNat := by decide
      simp
      omega
    · rw [decide_eq_false q]
      simp
  repeat walk_at "ds"
  refine two_dec (fun h6 => ?_) (fun h6 => ?_)
  · repeat walk_at "ds"
    rw [List.length_map] at h6
    have hlt : k.toNat < ns.length := by omega
    refine bx_ix_lst (d := .int ns[k.toNat]) ?_ ?_
    · unfold atI ixN
      rw [List.length_map, if_pos hk, if_pos h6]
      simp [hlt]
    repeat walk_at "ds"
    exact fin _
  · repeat walk_at "ds"
    exact fin 0
end Ds.K41
namespace Ds.K41
open PySem PySem.Spec PyProof.Rows L2 Dn TL
theorem ix_abcE {i : Int} {Q : D → Prop} (h0 : 0 ≤ i) (h1 : i < 26) (h : Q (.str ⟨#[97 + i.toNat]⟩)) : ∃ c, dIx (.str abc) (.int i) = some c ∧ Q c := by
  refine bx_ix_str (c := 97 + i.toNat) (by decide) ?_ h
  have e : abc.cps.toList = (List.range 26).map (97 + ·) := by decide
  rw [e]
  unfold atI ixN
  rw [if_pos h0, if_pos (by simpa using h1)]
  show ((List.range 26).map (97 + ·))[i.toNat]? = some (97 + i.toNat)
  rw [List.getElem?_map, List.getElem?_range (by omega)]
  rfl
/-- the letters of a name -/
theorem nm_tl (ss : List Str) (z : Str) : tl ("q" ++ Txt.join "" ss ++ z) = 113 :: ss.flatMap tl ++ tl z := by
  rw [tl_append, tl_append]
  have : Txt.join "" ss = Txt.join Str.empty ss := rfl
  rw [this, Dn.tl_join]
  rfl
theorem flat_at : ∀ (ss : List Str) (k c : Nat), (∀ s ∈ ss, Lt s) → ss[k]? = some ⟨#[c]⟩ → (ss.flatMap tl)[k]? = some c
  | [], k, c, _, h => by simp at h
  | s :: r, 0, c, _, h => by
    simp at h; subst h
    simp [tl]
  | s :: r, k + 1, c, hl, h => by
    obtain ⟨d, rfl, _⟩ := hl _ List.mem_cons_self
    have := flat_at r k c (fun t ht => hl t (List.mem_cons_of_mem _ ht)) (by simpa using h)
    rw [List.flatMap_cons]
    simpa [tl] using this
def Nmq (x : Str) : Prop := Nm x ∧ x ≠ "qlastony"
theorem Nmq.mk' {ss : List Str} {z : Str} (h : ∀ s ∈ ss, Lt s) (h1 : 1 ≤ ss.length) (h6 : ss.length ≤ 6) (hz : z = "" ∨ z = "z") : Nmq ("q" ++ Txt.join "" ss ++ z) := by
  refine ⟨Nm.mk' h h1 h6 hz, fun e => ?_⟩
  have e2 := nm_tl ss z
  rw [e] at e2
  have e3 : tl "qlastony" = [113, 108, 97, 115, 116, 111, 110, 121] := by decide
  rw [e3] at e2
  obtain ⟨i1, i2⟩ := lt_flat ss h
  have e4 := congrArg List.length e2
  rcases hz with rfl | rfl
  · have : (tl "").length = 0 := by decide
    simp [i1, this] at e4
    omega
  · have ez : tl "z" = [122] := by decide
    rw [ez] at e2 e4
    simp [i1] at e4
    have e5 := congrArg (fun l => l[7]?) e2
    have e6 : (113 :: ss.flatMap tl ++ [122])[7]? = some 122 := by
      rw [List.getElem?_append_right (by simp [i1]; omega)]
      have : 7 - (113 :: ss.flatMap tl).length = 0 := by simp [i1]; omega
      rw [this]
      rfl
    have e5 : ([113, 108, 97, 115, 116, 111, 110, 121] : List Nat)[7]? = (113 :: ss.flatMap tl ++ [122])[7]? := e5
    rw [e6] at e5
    simp at e5
/-- names: unlike, none of them the one that is nobody's -/
structure Names (xs : List Str) : Prop where
  nm : ∀ x ∈ xs, Nmq x
  nd : xs.Nodup
end Ds.K41
namespace Ds.K41
open PySem PySem.Spec PyProof.Rows L2 Dn TL
theorem names {c b : Nat} {s : St} {n : Int} {Q : Cl → St → Prop} (hs : Dk c b s) (hc : c ≤ 900000) (hn : 0 ≤ n ∧ n ≤ 26) (h : ∀ (xs : List Str) (s' : St), Names xs → xs.length = n.toNat → Dk (c + 10) b s' → Fr b s s' → Q (.sh (.list (xs.map PyData.str))) s') : FRun f__law_names [.lo b, .sh (.int n)] s Q := by
  have hlt := hs.lt
  refine frun_fn rfl ?_
  unfold m__law_names
  repeat walk_at "ds"
  refine draw hs (by omega) (by omega) fun n1 s1 a1 b1 S1 F1 => ?_
  repeat walk_at "ds"
  refine ⟨by rw [rngD_length]; exact line_of (by omega), ?_⟩
  refine run_compL _ (fun i ys e s' => ∃ (ss : List Str), ys = ss.map PyData.str ∧ ss.length = i ∧ (∀ s ∈ ss, Lt s) ∧ Dk (c + 1 + i) b s' ∧ Fr b s s' ∧ e = [.lo b, .sh (.int n), .sh (.str abc), .no, .no, .no, .no, .no, .no]) ?_ (fun i d ys e s' hd hJ => ?_) fun ys e s' hJ => ?_
  · exact ⟨[], rfl, rfl, by simp, S1, F1, rfl⟩
  · obtain ⟨ss, rfl, e2, e3, S, F, rfl⟩ := hJ
    obtain ⟨rfl, hi⟩ := rngD_at hd
    refine ⟨_, rfl, ?_⟩
    repeat walk_at "ds"
    refine draw S (by omega) (by omega) fun n2 s2 a2 b2 S2 F2 => ?_
    repeat walk_at "ds"
    refine ix_abc a2 b2 fun t ht => ?_
    refine ⟨ss ++ [t], by simp, by simp [e2], fun u hu => ?_, S2, F.trans F2, rfl⟩
    rcases List.mem_append.mp hu with q | q
    · exact e3 u q
    · simp at q; subst q; exact ht
  · obtain ⟨ss, rfl, e2, e3, S2, F2, rfl⟩ := hJ
    rw [rngD_length] at e2 S2
    repeat walk_at "ds"
    have h2lt := S2.lt
    have le2 := F2.1
    have at3 : (s' ++ [Ob.lst ((ss.map PyData.str).map Cl.sh)])[s'.length]? = some (.lst ((ss.map PyData.str).map Cl.sh)) := app_new
    refine ⟨_, by unfold snaps; rw [snap_list at3]; rfl, ?_⟩
    repeat walk_at "ds"
    rw [List.length_map, e2]
    have S3 : Dk (c + 1 + (1 + n1).toNat) b (s' ++ [Ob.lst ((ss.map PyData.str).map Cl.sh)]) := S2.of (app_old h2lt)
    refine draw S3 (by omega) (by omega) fun n3 s3 a3 b3 S3 F3 => ?_
    repeat walk_at "ds"
    refine draw S3 (by omega) (by omega) fun n4 s4 a4 b4 S4 F4 => ?_
    repeat walk_at "ds"
    refine draw S4 (by omega) (by omega) fun n5 s5 a5 b5 S5 F5 => ?_
    repeat walk_at "ds"
    have at5 := (F3.trans (F4.trans F5)).at_ at3 (by omega)
    have l5 : s'.length < s5.length := lt_of_at at5
    have F05 : Fr b s s5 := (F2.trans Fr.app).trans (F3.trans (F4.trans F5))
    refine run_forL _ (fun i e s7 => ∃ (ss xs : List Str) (z : Cl), ss.length = (1 + n1).toNat ∧ (∀ s ∈ ss, Lt s) ∧ (∀ x ∈ xs, Nmq x) ∧ xs.length = i ∧ (∀ (j : Nat) (x : Str), xs[j]? = some x → (tl x)[1 + n3.toNat]? = some (97 + ((n4 + j) % 26).toNat)) ∧ (∀ x, xs[0]? = some x → x.length ≤ 7) ∧ Dk (c + 10) b s7 ∧ Fr b s s7 ∧ s7[s'.length]? = some (.lst ((ss.map PyData.str).map Cl.sh)) ∧ s7[s5.length]? = some (.lst ((xs.map PyData.str).map Cl.sh)) ∧ e = [.lo b, .sh (.int n), .sh (.str abc), .lo s'.length, .sh (.int n3), .sh (.int n4), .sh (.int n5), .lo s5.length, z]) ?_ (fun i d e s7 hd hI => ?_) fun e s7 hI => ?_
    · exact ⟨ss, [], _, e2, e3, by simp, rfl, by simp, by simp, (S5.of (app_old (by omega))).mono (by omega), F05.trans Fr.app, (app_old l5).trans at5, app_new, rfl⟩
    · obtain ⟨ss, xs, z, f1, f2, f3, f4, f5, f6, S7, F7, g1, g2, rfl⟩ := hI
      obtain ⟨rfl, hi⟩ := rngD_at hd
      refine ⟨_, rfl, ?_⟩
      repeat walk_at "ds"
      refine ix_abcE (Int.emod_nonneg _ (by omega)) (Int.emod_lt_of_pos _ (by omega)) ?_
      generalize hs : (⟨#[97 + ((n4 + (0 + (i : Int))) % 26).toNat]⟩ : Str) = t
      have ht : Lt t := ⟨_, hs.symm, by omega, by omega⟩
      repeat walk_at "ds"
      refine ⟨_, _, n3.toNat, g1, rfl, ixN_in a3 (by simp; omega), ?_⟩
      rw [← List.map_set, ← List.map_set]
      have k1 : (ss.set n3.toNat t).length = (1 + n1).toNat := by rw [List.length_set, f1]
      have k2 : ∀ u ∈ ss.set n3.toNat t, Lt u := fun u hu => (List.mem_or_eq_of_mem_set hu).elim (f2 u) fun q => q ▸ ht
      have k0 : (ss.set n3.toNat t)[n3.toNat]? = some t := List.getElem?_set_self (by omega)
      have k3 : joinN ("" : Str) (ss.set n3.toNat t) ≤ (ss.set n3.toNat t).length * 1 := joinN_le fun t ht => (k2 t ht).ok.1
      have kj : Nm ("q" ++ Txt.join "" (ss.set n3.toNat t) ++ "") := Nm.mk' k2 (by omega) (by omega) (.inl rfl)
      have kk : ("q" ++ Txt.join "" (ss.set n3.toNat t) : Str).length ≤ 8 := by
        have := kj.2.1
        rw [len_append] at this
        exact Nat.le_trans (Nat.le_add_right _ _) this
      have kq : (("q" : Str).length) = 1 := rfl
      have kz : (("z" : Str).length) = 1 := rfl
      have kl : (Txt.join "" (ss.set n3.toNat t) : Str).length ≤ 8 := by
        rw [len_append] at kk
        omega
      have g1' : ∀ o, (s7.set s'.length o)[s'.length]? = some o := fun o => set_same (lt_of_at g1)
      have g2' : ∀ o, (s7.set s'.length o)[s5.length]? = some (.lst ((xs.map PyData.str).map Cl.sh)) := fun o => (set_other (by omega)).trans g2
      repeat walk_at "ds"
      refine ⟨_, g2' _, ?_⟩
      repeat walk_at "ds"
      refine ⟨_, snap_list (g1' _), ?_⟩
      refine bx_joinO (by omega) ?_
      have em : (0 + (i : Int)) % 2 = 0 ∨ (0 + (i : Int)) % 2 = 1 := by omega
      have en : n5 = 0 ∨ n5 = 1 := by omega
      have er : ((0 + (i : Int)) % 2 * n5 = 0) ∨ ((0 + (i : Int)) % 2 * n5 = 1) := by
        rcases em with em | em <;> rcases en with en | en <;> rw [em, en] <;> simp
      have rz : strRep "z" ((0 + (i : Int)) % 2 * n5) = "" ∨ strRep "z" ((0 + (i : Int)) % 2 * n5) = "z" := by
        rcases er with er | er
        · rw [er]; exact .inl rfl
        · rw [er]; exact .inr rfl
      have hrep : -1000000 ≤ (0 + (i : Int)) % 2 * n5 ∧ (0 + (i : Int)) % 2 * n5 ≤ 1000000 ∧ ("z" : Str).length ≤ 16 := by
        refine ⟨?_, ?_, by decide⟩ <;> rcases er with er | er <;> rw [er] <;> decide
      generalize hr : strRep "z" ((0 + (i : Int)) % 2 * n5) = rep at rz
      have rl : rep.length ≤ 1 := by
        rcases rz with rfl | rfl <;> decide
      repeat walk_at "ds"
      rw [hr]
      refine bx_add_str (line_of (by omega)) ?_
      refine ⟨_, g2' _, line_of (by simp; omega), ?_⟩
      refine turn_nx ?_
      have l7 : s5.length < s7.length := lt_of_at g2
      refine ⟨ss.set n3.toNat t, xs ++ [("q" ++ Txt.join "" (ss.set n3.toNat t) ++ rep)], _, k1, k2, fun x hx => ?_, by simp [f4], fun j x hx => ?_, fun x hx => ?_, ?_, (F7.put le2).put (by omega), (set_other (by omega)).trans (g1' _), ?_, rfl⟩
      · rcases List.mem_append.mp hx with q | q
        · exact f3 x q
        · simp at q; subst q; exact Nmq.mk' k2 (by omega) (by omega) rz
      · by_cases hj : j < xs.length
        · rw [List.getElem?_append_left hj] at hx
          exact f5 j x hx
        · have hlen := (List.getElem?_eq_some_iff.mp hx).1
          simp at hlen
          obtain rfl : j = i := by omega
          rw [List.getElem?_append_right (by omega), f4, Nat.sub_self] at hx
          simp at hx
          subst hx
          have q2 := lt_flat _ k2
          rw [nm_tl, List.getElem?_append_left (by simp [q2.1]; omega), Nat.add_comm, List.getElem?_cons_succ]
          refine flat_at _ _ _ k2 ?_
          rw [k0, ← hs]
          simp
      · by_cases hj : 0 < xs.length
        · rw [List.getElem?_append_left hj] at hx
          exact f6 x hx
        · have e0 : i = 0 := by omega
          have x0 : xs = [] := List.length_eq_zero_iff.mp (by omega)
          subst e0 x0
          simp at hx
          subst hx
          have r0 : rep = "" := by
            rw [← hr]
            simp
            rfl
          rw [r0, len_append, len_append]
          have e1 : (Txt.join "" (ss.set n3.toNat t) : Str).length ≤ 6 := by
            have q2 := lt_flat _ k2
            have := nm_tl (ss.set n3.toNat t) ""
            have e2 := congrArg List.length this
            rw [← len_tl, len_append, len_append] at e2
            have e3 : (tl ("" : Str)).length = 0 := by decide
            have e4 : (("" : Str).length) = 0 := rfl
            rw [kq, e4, List.length_append, List.length_cons, q2.1, k1, e3] at e2
            omega
          have e4 : (("" : Str).length) = 0 := rfl
          omega
      · exact (S7.of (set_other (by omega))).of (set_other (by omega))
      · rw [set_same (by simp; omega)]
        simp
    · obtain ⟨ss, xs, z, f1, f2, f3, f4, f5, f6, S7, F7, g1, g2, rfl⟩ := hI
      rw [rngD_length] at f4
      refine seq_nx ?_
      repeat walk_at "ds"
      have ls : s.length ≤ s5.length := F05.1
      have hb5 : b ≠ s5.length := by
        have := F05.1
        omega
      refine ⟨_, _, g2, shL_map _, ?_⟩
      repeat walk_at "ds"
      refine h xs _ ⟨f3, ?_⟩ (by omega) (Dk.trim (S7.of (set_other hb5)) hlt) (Fr.trim (F7.put ls))
      refine List.pairwise_iff_getElem.mpr fun i j hi hj hij e => ?_
      have e1 := f5 i _ (List.getElem?_eq_getElem hi)
      have e2 := f5 j xs[i] (by rw [e]; exact List.getElem?_eq_getElem hj)
      rw [e1] at e2
      simp at e2
      omega
end Ds.K41
namespace Ds.K41
open PySem PySem.Spec PyProof.Rows L2 Dn TL
def strP (f : Str → Bool) : D → Bool
  | .str y => f y
  | _ => false
def letters : Str := "abcdefghijklmnopqrstuvwxyz"
def inLet (y : Str) : Bool := strIn y letters
def tongue : List Str := ["take", "ask", "number", "copy", "mix", "open", "tell", "wipe", "clear", "drop", "choose", "loop", "out", "risk", "fault", "call", "back", "def", "main"]
def lettersB (x : Str) : Bool := (tl x).all fun c => decide (c ∈ tl letters)
def nameB (x : Str) : Bool := decide (1 ≤ x.length ∧ x.length ≤ 8) && !tongue.contains x && lettersB x
def parts (x : Str) : List Str := Txt.split x "."
theorem bx_parts {x : Str} {Q : D → Prop} (hx : x.length ≤ 100000) (h : Q (.list ((parts x).map PyData.str))) : ∃ c, sSplit x [.str "."] = some c ∧ Q c := bx_split rfl (by unfold sizeLine; omega) h
theorem spl_none : ∀ (l acc : List Nat), 46 ∉ l → spl [46] 0 acc l = [acc ++ l]
  | [], acc, _ => by simp [spl]
  | c :: l, acc, h => by
    rw [spl_miss (by simp [pre]; intro z; exact absurd (z ▸ List.mem_cons_self) h), spl_none l _ fun z => h (List.mem_cons_of_mem _ z)]
    simp
def Lo (x : Str) : Prop := Ok 8 x ∧ 46 ∉ tl x
theorem only_part {x : Str} (h : Lo x) : parts x = [x] := by
  have e := split_spl x ⟨#[46]⟩ (by simp [tl]) (kind_ok (sep_ok (by decide)))
  rw [show tl (⟨#[46]⟩ : Str) = [46] from rfl, spl_none _ _ h.2] at e
  cases q : Txt.split x ⟨#[46]⟩ with
  | nil => rw [q] at e; simp at e
  | cons p rest =>
    rw [q] at e
    have h1 := (List.cons.inj e).1
    have h2 := (List.cons.inj e).2
    have hp : p = x := ext_tl (by simpa using h1)
    have hr : rest = [] := by cases rest with
      | nil => rfl
      | cons _ _ => simp at h2
    rw [hp, hr] at q
    exact q
theorem run_all {vs : List Nat} {g : MG Cl} {me : M D} {e : Ev} {s : St} {Q : List D → Ev → St → Prop} (ds : List D) (f : D → Bool)
    (hs : ∀ d ∈ ds, ∃ e1, g (.sh d) e = some e1 ∧ Run me e1 s fun y e3 s3 => y = .bool (f d) ∧ wipeE e3 vs = e ∧ s3 = s)
    (fin : Q ((ds.map f).map PyData.bool) e s) : Run (compL vs g mYes me ds) e s Q := by
  refine run_compF ds (fun _ => true) (fun d => .bool (f d)) (fun s' => s' = s) rfl (fun d hd s' hs' => ?_) fun s' hs' => ?_
  · subst hs'
    obtain ⟨e1, h1, h2⟩ := hs d hd
    refine ⟨e1, h1, run_yes ⟨rfl, fun _ => h2, fun z => nomatch z⟩⟩
  · subst hs'
    rw [List.filter_eq_self.mpr (by simp)]
    rw [List.map_map] at fin
    exact fin
theorem sgn_all {x : Str} : ((sgnD x).map (strP inLet)) = ((tl x).map fun c => decide (c ∈ tl letters)) := by
  unfold sgnD
  rw [List.map_map]
  rfl
theorem in_tongue {x : Str} {Q : D → Prop} (h : Q (.bool (tongue.contains x))) : ∃ c, dIn (.str x) c_TONGUE = some c ∧ Q c := by
  have e : c_TONGUE = .tuple (tongue.map PyData.str) := rfl
  rw [e]
  exact bx_in_tup rfl (flat_strs _) (by rw [inD_strs]; exact h)
end Ds.K41
namespace Ds.K41
open PySem PySem.Spec PyProof.Rows L2 Dn TL
theorem is_name_str {x : Str} {s : St} {Q : Cl → St → Prop} (hx : x.length ≤ sizeLine) (h : Q (.sh (.bool (nameB x))) s) : FRun f_is_name [.sh (.str x)] s Q := by
  refine frun_fn rfl ?_
  unfold m_is_name
  repeat walk_at "ds"
  have no : nameB x = false → Q (.sh (.bool false)) (trim s.length (.sh (.bool false)) s) := fun z => by rw [z] at h; rw [trim_len rfl]; exact h
  refine two_dec (fun h1 => ?_) (fun h1 => ?_)
  · repeat walk_at "ds"
    refine two_dec (fun h2 => ?_) (fun h2 => ?_)
    · repeat (first | with_reducible refine in_tongue ?_ | walk_at "ds")
      refine ⟨fun h3 => ?_, fun h3 => ?_⟩
      · repeat walk_at "ds"
        exact no (by unfold nameB; rw [h3]; simp)
      · repeat walk_at "ds"
        refine ⟨by rw [sgnD_len]; exact hx, run_all _ (strP inLet) (fun d hd => ⟨_, rfl, ?_⟩) ?_⟩
        · obtain ⟨c, hc, rfl⟩ := mem_sgnD hd
          repeat walk_at "ds"
          exact ⟨rfl, rfl, rfl⟩
        · repeat walk_at "ds"
          refine ⟨_, shL_map _, ?_⟩
          repeat walk_at "ds"
          rw [sgn_all]
          refine bx_bools ?_
          repeat walk_at "ds"
          have e : nameB x = (List.all ((tl x).map fun c => decide (c ∈ tl letters)) id) := by
            unfold nameB lettersB
            rw [h3, decide_eq_true (show 1 ≤ x.length ∧ x.length ≤ 8 from ⟨by omega, by omega⟩)]
            simp [List.all_map]
          rw [← e, trim_len rfl]
          exact h
    · repeat walk_at "ds"
      exact no (by unfold nameB; rw [decide_eq_false (fun z => h2 (by have := z.2; omega))]; rfl)
  · repeat walk_at "ds"
    exact no (by unfold nameB; rw [decide_eq_false (fun z => h1 (by have := z.1; omega))]; rfl)
section
variable {s : St} {Q : Cl → St → Prop}
theorem first_name_ {x : Str} {a : Str} {rest : List Str} (hx : x.length ≤ 1000) (e : parts x = a :: rest) (q : Q (.sh (.str a)) s) : FRun f_first_name [.sh (.str x)] s Q := by
  refine frun_fn rfl ?_
  unfold m_first_name
  repeat walk_at "ds"
  refine bx_parts (by omega) ?_
  rw [e]
  repeat walk_at "ds"
  refine bx_ix_lst (d := .str a) (by unfold atI ixN; rw [if_pos (by omega), if_pos (by rw [List.length_map, List.length_cons]; omega)]; rfl) ?_
  repeat walk_at "ds"
  rw [trim_len rfl]
  exact q
end
end Ds.K41
namespace Ds.K41
open PySem PySem.Spec PyProof.Rows L2 Dn TL
def lets : Nat → Nat → List Nat
  | 0, _ => []
  | i + 1, n => (97 + n / 26 ^ i % 26) :: lets i n
def ofL (l : List Nat) : Str := ⟨l.toArray⟩
def nb (n : Nat) : Str := ofL (113 :: lets 4 n)
theorem tl_ofL (l : List Nat) : tl (ofL l) = l := rfl
theorem len_ofL (l : List Nat) : (ofL l).length = l.length := by rw [len_tl, tl_ofL]
theorem cons_ofL (c : Nat) (l : List Nat) : (⟨#[c]⟩ : Str) ++ ofL l = ofL (c :: l) := by
  refine ext_tl ?_
  rw [tl_append, tl_ofL, tl_ofL]
  rfl
theorem lets_len : ∀ i n, (lets i n).length = i
  | 0, _ => rfl
  | i + 1, n => by unfold lets; rw [List.length_cons, lets_len i n]
theorem lets_mem : ∀ {i n c : Nat}, c ∈ lets i n → 97 ≤ c ∧ c ≤ 122
  | 0, _, _, h => nomatch h
  | i + 1, n, c, h => by
    unfold lets at h
    rcases List.mem_cons.mp h with rfl | h
    · omega
    · exact lets_mem h
theorem nb_len (n : Nat) : (nb n).length = 5 := by
  unfold nb
  rw [len_ofL, List.length_cons, lets_len]
theorem nb_inj {n m : Nat} (hn : n < 456976) (hm : m < 456976) (h : nb n = nb m) : n = m := by
  have e := congrArg tl h
  unfold nb at e
  rw [tl_ofL, tl_ofL] at e
  simp only [lets, List.cons.injEq, Nat.reducePow] at e
  omega
theorem in_letters : ∀ c, 97 ≤ c → c ≤ 122 → c ∈ tl letters := fun c h1 h2 => by
  have e : tl letters = (List.range 26).map (97 + ·) := by decide
  rw [e]
  exact List.mem_map.mpr ⟨c - 97, List.mem_range.mpr (by omega), by omega⟩
theorem nb_name (n : Nat) : nameB (nb n) = true := by
  unfold nameB
  rw [nb_len]
  have h1 : tongue.contains (nb n) = false := by
    rw [List.contains_eq_mem]
    refine decide_eq_false fun z => ?_
    have : ∀ w ∈ tongue, (tl w).head? ≠ some 113 := by decide
    exact this _ z rfl
  have h2 : lettersB (nb n) = true := by
    unfold lettersB nb
    rw [tl_ofL]
    refine List.all_eq_true.mpr fun c hc => decide_eq_true ?_
    rcases List.mem_cons.mp hc with rfl | h
    · exact in_letters _ (by omega) (by omega)
    · have := lets_mem h
      exact in_letters _ this.1 this.2
  rw [h1, h2]
  rfl
theorem name_no : nameB "" = false := by decide
theorem pig : ∀ (L K : List Str), L.Nodup → (∀ x ∈ L, x ∈ K) → L.length ≤ K.length
  | [], _, _, _ => Nat.zero_le _
  | x :: L, K, hn, hs => by
    have hx : x ∈ K := hs x List.mem_cons_self
    have hn' := List.nodup_cons.mp hn
    have := pig L (K.erase x) hn'.2 fun y hy => (List.mem_erase_of_ne (fun (e : y = x) => hn'.1 (by rw [← e]; exact hy))).mpr (hs y (List.mem_cons_of_mem _ hy))
    rw [List.length_erase_of_mem hx] at this
    have hp : 0 < K.length := List.length_pos_of_mem hx
    rw [List.length_cons]
    omega
theorem pig_nb {K : List Str} {a b : Nat} (hb : b ≤ 456976) (h : ∀ i, a ≤ i → i < b → nb i ∈ K) : b - a ≤ K.length := by
  have := pig ((List.range (b - a)).map fun i => nb (a + i)) K ?_ fun x hx => ?_
  · rw [List.length_map, List.length_range] at this
    exact this
  · refine List.pairwise_map.mpr (List.pairwise_iff_getElem.mpr fun i j hi hj hij e => ?_)
    have hi' := hi
    have hj' := hj
    rw [List.length_range] at hi' hj'
    rw [List.getElem_range, List.getElem_range] at e
    have := nb_inj (by omega) (by omega) e
    omega
  · obtain ⟨i, hi, rfl⟩ := List.mem_map.mp hx
    have := List.mem_range.mp hi
    exact h _ (by omega) (by omega)
end Ds.K41
namespace Ds.K41
open PySem PySem.Spec PyProof.Rows L2 Dn TL
theorem name_by_ {n : Nat} {s : St} {Q : Cl → St → Prop} (h : Q (.sh (.str (nb n))) s) : FRun f_name_by [.sh (.int (n : Int))] s Q := by
  refine frun_fn rfl ?_
  unfold m_name_by
  repeat walk_at "ds"
  refine run_forL _ (fun i e s' => s' = s ∧ ∃ z, e = [.sh (.int ((n / 26 ^ i : Nat) : Int)), .sh (.str (ofL (lets i n))), z]) ⟨rfl, _, by rw [Nat.pow_zero, Nat.div_one]; rfl⟩ (fun i d e s' hd hI => ?_) fun e s' hI => ?_
  · obtain ⟨rfl, z, rfl⟩ := hI
    obtain ⟨rfl, hi⟩ := rngD_at hd
    refine ⟨_, rfl, ?_⟩
    have e26 : (Str.ofString "abcdefghijklmnopqrstuvwxyz").length = 26 := by decide
    repeat walk_at "ds"
    rw [e26]
    refine ix_abcE (Int.emod_nonneg _ (by omega)) (Int.emod_lt_of_pos _ (by omega)) ?_
    repeat walk_at "ds"
    have hl := lets_len i n
    refine bx_add_str (line_of (by rw [len_ofL, hl]; show 1 + i ≤ _; omega)) ?_
    repeat walk_at "ds"
    rw [e26, cons_ofL]
    refine ⟨rfl, .sh (.int (0 + (i : Int))), ?_⟩
    have e1 : ((n / 26 ^ i : Nat) : Int) / ((26 : Nat) : Int) = ((n / 26 ^ (i + 1) : Nat) : Int) := by
      rw [Nat.pow_succ, ← Nat.div_div_eq_div_mul]
      rfl
    have e2 : (97 + (((n / 26 ^ i : Nat) : Int) % ((26 : Nat) : Int)).toNat) = 97 + n / 26 ^ i % 26 := by omega
    rw [e2]
    exact congrArg (fun x => [Cl.sh (.int x), .sh (.str (ofL (lets (i + 1) n))), .sh (.int (0 + (i : Int)))]) e1
  · obtain ⟨rfl, z, rfl⟩ := hI
    repeat walk_at "ds"
    have hq : ("q" : Str) = ⟨#[113]⟩ := by decide
    rw [trim_len rfl, hq, cons_ofL, rngD_length]
    exact h
end Ds.K41
namespace Ds.K41
open PySem PySem.Spec PyProof.Rows L2 Dn TL
theorem nb_ok (n : Nat) : Ok 8 (nb n) := ⟨by rw [nb_len]; decide, fun c hc => by
  unfold nb at hc
  rw [tl_ofL] at hc
  rcases List.mem_cons.mp hc with rfl | h
  · decide
  · have := lets_mem h
    omega⟩
def plF (W : D) (st nm wm : Nat) : List (Str × Cl) := [("whole", .sh W), ("standing", .lo st), ("names_made", .sh (.int (nm : Int))), ("words_made", .sh (.int (wm : Int)))]
/-- a Placing at o -/
structure PS (o st : Nat) (W : D) (K : List Str) (nm wm : Nat) (s : St) : Prop where
  ob : s[o]? = some (.ins "Placing" (plF W st nm wm))
  sd : ∃ kvs, s[st]? = some (.dk kvs) ∧ ∀ x c, valC kvs (.inr x) = some c → x ∈ K
  ne : st ≠ o
theorem PS.of {o st : Nat} {W : D} {K : List Str} {nm wm : Nat} {s s' : St} (P : PS o st W K nm wm s) (h1 : s'[o]? = s[o]?) (h2 : s'[st]? = s[st]?) : PS o st W K nm wm s' :=
  ⟨h1.trans P.ob, by obtain ⟨kvs, a, b⟩ := P.sd; exact ⟨kvs, h2.trans a, b⟩, P.ne⟩
theorem PS.put {o st : Nat} {W : D} {K : List Str} {nm wm nm' wm' : Nat} {s : St} (P : PS o st W K nm wm s) : PS o st W K nm' wm' (s.set o (.ins "Placing" (plF W st nm' wm'))) :=
  ⟨set_same (lt_of_at P.ob), by obtain ⟨kvs, a, b⟩ := P.sd; exact ⟨kvs, (set_other P.ne).trans a, b⟩, P.ne⟩
theorem PS.lt {o st : Nat} {W : D} {K : List Str} {nm wm : Nat} {s : St} (P : PS o st W K nm wm s) : o < s.length ∧ st < s.length :=
  ⟨lt_of_at P.ob, by obtain ⟨kvs, a, b⟩ := P.sd; exact lt_of_at a⟩
theorem PS.trim {o st n : Nat} {W : D} {K : List Str} {nm wm : Nat} {s : St} {c : Cl} (P : PS o st W K nm wm s) (h1 : o < n) (h2 : st < n) : PS o st W K nm wm (trim n c s) := P.of (trim_get h1) (trim_get h2)
theorem PS.fr {o st l : Nat} {W : D} {K : List Str} {nm wm : Nat} {s s' : St} (P : PS o st W K nm wm s) (F : Fr l s s') (h1 : o ≠ l) (h2 : st ≠ l) : PS o st W K nm wm s' := P.of (F.2 o P.lt.1 h1) (F.2 st P.lt.2 h2)
theorem PS.fz {o st : Nat} {W : D} {K : List Str} {nm wm : Nat} {s s' : St} (P : PS o st W K nm wm s) (F : Fz s s') : PS o st W K nm wm s' := P.of (F.2 o P.lt.1) (F.2 st P.lt.2)
theorem fz_fr {s s' : St} (F : Fz s s') (b : Nat) : Fr b s s' := ⟨F.1, fun j hj _ => F.2 j hj⟩
end Ds.K41
namespace Ds.K41
open PySem PySem.Spec PyProof.Rows L2 Dn TL
section
variable {o st : Nat} {W : D} {K : List Str} {nm wm : Nat} {s : St} {Q : Cl → St → Prop}
theorem fresh_name_ (P : PS o st W K nm wm s) (hb : nm + K.length + 1 < 456976) (h : ∀ x nm' s', Ok 8 x → nm' ≤ nm + K.length + 1 → PS o st W K nm' wm s' → Fr o s s' → Q (.sh (.str x)) s') : FRun f_Placing_fresh_name [.lo o] s Q := by
  refine frun_fn rfl ?_
  unfold m_Placing_fresh_name
  repeat walk_at "ds"
  refine run_while (fun j e s' => ∃ x m, e = [.lo o, .sh (.str x)] ∧ PS o st W K m wm s' ∧ Fr o s s' ∧ j = nm + K.length + 1 - m ∧ ((x = "" ∧ m = nm) ∨ (nm + 1 ≤ m ∧ m ≤ nm + K.length + 1 ∧ x = nb (m - 1) ∧ ∀ i, nm ≤ i → i < m - 1 → nb i ∈ K))) (K.length + 1) (by omega) ⟨_, nm, rfl, P, Fr.refl _ _, by omega, .inl ⟨rfl, rfl⟩⟩ fun j e s' hI => ?_
  obtain ⟨x, m, rfl, P', F, rfl, hc⟩ := hI
  obtain ⟨kvs, hd, hK⟩ := P'.sd
  have ob := P'.ob
  have go : ∀ (hm : nm ≤ m ∧ m ≤ nm + K.length) (_ : ∀ i, nm ≤ i → i < m → nb i ∈ K), RunX (fun y _ s' => NoF y s') ((mSeq (mSet 1 (mSh (mD (mCall f_name_by [(mSh (mD (mFld "Placing" (mLV 0) "names_made")))]))))
  (mAugF "Placing" (mLV 0) "names_made" (fun i j => i + j) 1))) [.lo o, .sh (.str x)] s' fun fl e2 s2 => (fl = .nx ∨ fl = .ct → ∃ n', n' < nm + K.length + 1 - m ∧ ∃ x m', e2 = [.lo o, .sh (.str x)] ∧ PS o st W K m' wm s2 ∧ Fr o s s2 ∧ n' = nm + K.length + 1 - m' ∧ ((x = "" ∧ m' = nm) ∨ (nm + 1 ≤ m' ∧ m' ≤ nm + K.length + 1 ∧ x = nb (m' - 1) ∧ ∀ i, nm ≤ i → i < m' - 1 → nb i ∈ K))) ∧ fl ≠ .bk ∧ (∀ c, fl ≠ .rt c) := by
    intro hm hk
    repeat walk_at "ds"
    refine ⟨_, _, ob, rfl, ?_⟩
    repeat walk_at "ds"
    refine name_by_ ?_
    repeat walk_at "ds"
    refine ⟨_, _, ob, Nat.lt_of_sub_eq_succ rfl, rfl, ?_⟩
    refine ⟨fun _ => ⟨nm + K.length + 1 - (m + 1), by omega, nb m, m + 1, rfl, ?_, F.trans Fr.set, rfl, .inr ⟨by omega, by omega, rfl, hk⟩⟩, by simp, by simp⟩
    exact P'.put (nm' := m + 1) (wm' := wm)
  rcases hc with ⟨rfl, rfl⟩ | ⟨h1, h2, hx, h3⟩
  · repeat walk_at "ds"
    refine is_name_str (Nat.zero_le _) ?_
    rw [name_no]
    repeat walk_at "ds"
    refine ⟨_, _, ob, rfl, ?_⟩
    repeat walk_at "ds"
    refine name_by_ ?_
    repeat walk_at "ds"
    refine ⟨_, _, ob, Nat.lt_of_sub_eq_succ rfl, rfl, ?_⟩
    repeat walk_at "ds"
    exact ⟨m + K.length + 1 - (m + 1), by omega, nb m, m + 1, rfl, P'.put (nm' := m + 1) (wm' := wm), F.trans Fr.set, rfl, .inr ⟨by omega, by omega, rfl, fun i h1 h2 => by omega⟩⟩
  · repeat walk_at "ds"
    have xl : x.length = 5 := by rw [hx]; exact nb_len _
    refine is_name_str (line_of (by omega)) ?_
    rw [show nameB x = true from by rw [hx]; exact nb_name _]
    repeat walk_at "ds"
    refine ⟨_, _, ob, rfl, ?_⟩
    repeat walk_at "ds"
    refine ⟨_, _, hd, rfl, ?_⟩
    repeat walk_at "ds"
    cases hv : valC kvs (.inr x) with
    | some c =>
      have hxK := hK x c hv
      have hk : ∀ i, nm ≤ i → i < m → nb i ∈ K := fun i h4 h5 => by
        by_cases h6 : i = m - 1
        · rw [h6, ← hx]; exact hxK
        · exact h3 i h4 (by omega)
      have := pig_nb (by omega) hk
      refine ⟨fun _ => ?_, fun z => (nomatch z)⟩
      refine RunX.mono (go ⟨by omega, by omega⟩ hk) ?_
      rintro fl e2 s2 ⟨g1, g2, g3⟩
      exact ⟨g1, fun z => absurd z g2, fun c z => absurd z (g3 c)⟩
    | none =>
      refine ⟨fun z => (nomatch z), fun _ => ?_⟩
      repeat walk_at "ds"
      refine h x m _ (hx ▸ nb_ok _) h2 (P'.trim P.lt.1 P.lt.2) F.trim
theorem tally_ {n : Nat} {Y : Exn → St → Prop} (P : PS o st W K nm wm s) (h : wm + n ≤ 300 → ∀ s', PS o st W K nm (wm + n) s' → Fr o s s' → Q (.sh .none) s') (hy : 300 < wm + n → ∀ s', Y ⟨"TooLong", none⟩ s') : FRunX Y f_Placing_tally [.lo o, .sh (.int (n : Int))] s Q := by
  refine frun_fn rfl ?_
  unfold m_Placing_tally
  repeat walk_at "ds"
  refine ⟨_, _, P.ob, rfl, ?_⟩
  repeat walk_at "ds"
  refine ⟨_, _, rfl, P.ob, Nat.lt_of_sub_eq_succ rfl, ?_⟩
  have ob' : (s.set o (.ins "Placing" (plF W st nm (wm + n))))[o]? = some (.ins "Placing" (plF W st nm (wm + n))) := set_same P.lt.1
  repeat walk_at "ds"
  refine ⟨_, _, ob', rfl, ?_⟩
  repeat walk_at "ds"
  have hd : ((wm : Int) + (n : Int) > 300) ↔ 300 < wm + n := by omega
  refine two_dec (fun h6 => ?_) (fun h6 => ?_)
  · repeat walk_at "ds"
    exact hy (by omega) _
  · repeat walk_at "ds"
    exact h (by omega) _ ((P.put (nm' := nm) (wm' := wm + n)).trim P.lt.1 P.lt.2) (Fr.trim Fr.set)
end
end Ds.K41
namespace Ds.K41
open PySem PySem.Spec PyProof.Rows L2 Dn TL
inductive Wk where
  | tell (x : Nat)
  | wipe (x : Nat)
  | out
  | lp
  | ch
  | call (f : Nat) (as gs : List Nat)
structure Df where
  n : Nat
  ps : List Nat
  rs : List Nat
  row : List Wk
def tx (N : Nat → Str) (l : List Nat) : List Str := l.map N
def sts (N : Nat → Str) (l : List Nat) : D := .tuple ((tx N l).map PyData.str)
def outD : D := .tuple [.str "out", .int 1]
def backD : D := .tuple [.str "back"]
def encW (N : Nat → Str) : Wk → D
  | .tell x => .tuple [.str "tell", .str (N x)]
  | .wipe x => .tuple [.str "wipe", .str (N x)]
  | .out => outD
  | .lp => .tuple [.str "loop", .tuple [outD]]
  | .ch => .tuple [.str "choose", .tuple [.tuple [backD], .tuple []]]
  | .call f as gs => .tuple [.str "call", .str (N f), sts N as, sts N gs]
def encR (N : Nat → Str) (ws : List Wk) : D := .tuple (ws.map (encW N))
def encDf (N : Nat → Str) (d : Df) : D := .tuple [.str (N d.n), sts N d.ps, sts N d.rs, encR N d.row]
def encP (N : Nat → Str) (ds : List Df) (m : List Wk) : D := .tuple [.tuple (ds.map (encDf N)), encR N m]
def NmOk (N : Nat → Str) : Prop := ∀ i, Lo (N i)
/-- the words of a row told, so deep -/
def CR (W : D → Nat → Prop) : List D → Nat → Prop
  | [], n => n = 0
  | d :: ds, n => ∃ a b, W d a ∧ CR W ds b ∧ n = a + b
def Leaf (d : D) : Prop := ∃ (w : Str) (r : List D), d = .tuple (.str w :: r) ∧ w ≠ "loop" ∧ w ≠ "choose"
def CW : Nat → D → Nat → Prop
  | 0, d, n => Leaf d ∧ n = 1
  | j + 1, d, n => (Leaf d ∧ n = 1) ∨ (∃ ws m, d = .tuple [.str "loop", .tuple ws] ∧ CR (CW j) ws m ∧ n = m + 1) ∨ ∃ ws m, d = .tuple [.str "choose", .tuple [.tuple ws, .tuple []]] ∧ CR (CW j) ws m ∧ n = m + 1
theorem CR.app {W : D → Nat → Prop} : ∀ {xs ys : List D} {a b : Nat}, CR W xs a → CR W ys b → CR W (xs ++ ys) (a + b)
  | [], ys, a, b, h, k => by
    have h : a = 0 := h
    rw [h, Nat.zero_add]
    exact k
  | x :: xs, ys, a, b, ⟨c, d, h1, h2, h3⟩, k => ⟨c, d + b, h1, CR.app h2 k, by omega⟩
theorem CR.one {W : D → Nat → Prop} {d : D} {n : Nat} (h : W d n) : CR W [d] n := ⟨n, 0, h, rfl, rfl⟩
theorem CW.leaf {j : Nat} {d : D} (h : Leaf d) : CW j d 1 := by
  cases j with
  | zero => exact ⟨h, rfl⟩
  | succ j => exact .inl ⟨h, rfl⟩
theorem CR.leaves {j : Nat} : ∀ {ds : List D}, (∀ d ∈ ds, Leaf d) → CR (CW j) ds ds.length
  | [], _ => rfl
  | d :: ds, h => ⟨1, ds.length, CW.leaf (h d List.mem_cons_self), CR.leaves fun x hx => h x (List.mem_cons_of_mem _ hx), by rw [List.length_cons]; omega⟩
theorem CW.pos : ∀ {j : Nat} {d : D} {n : Nat}, CW j d n → 1 ≤ n
  | 0, _, _, h => by have := h.2; omega
  | _ + 1, _, _, .inl h => by have := h.2; omega
  | _ + 1, _, _, .inr (.inl ⟨_, _, _, _, h⟩) => by omega
  | _ + 1, _, _, .inr (.inr ⟨_, _, _, _, h⟩) => by omega
theorem CR.len {j : Nat} : ∀ {ds : List D} {n : Nat}, CR (CW j) ds n → ds.length ≤ n
  | [], _, _ => Nat.zero_le _
  | d :: ds, n, ⟨a, b, h1, h2, h3⟩ => by
    have := h1.pos
    have := CR.len h2
    rw [List.length_cons]
    omega
/-- what becomes of the count -/
inductive Oc where
  | ok (n : Nat)
  | tl
  | bad
def Oc.bnd : Oc → (Nat → Oc) → Oc
  | .ok n, f => f n
  | .tl, _ => .tl
  | .bad, _ => .bad
def tal (n wm : Nat) : Oc := if wm + n ≤ 300 then .ok (wm + n) else .tl
def rowOc (f : Wk → Nat → Oc) : List Wk → Nat → Oc
  | [], wm => .ok wm
  | w :: ws, wm => (f w wm).bnd fun m => rowOc f ws m
/-- the boxes that a word names -/
def bxW : Wk → List Nat
  | .tell x => [x]
  | .wipe x => [x]
  | .call _ as gs => as ++ gs
  | _ => []
def bxR (ws : List Wk) : List Nat := ws.flatMap bxW
def bxD (d : Df) : List Nat := bxR d.row ++ d.ps ++ d.rs
/-- some box that is no result; told only where that is sure -/
def othD (d : Df) : Option Bool := if (bxD d).all (fun i => d.rs.contains i) then some false else if d.rs.isEmpty then some true else none
def lvOf (d : Df) (b : Bool) : Nat := 2 * d.rs.length + (if b then 1 else 0) + 1
def wOc (ds : List Df) : Nat → Nat → Wk → Nat → Oc
  | _, _, .tell _, wm => tal 1 wm
  | _, _, .wipe _, wm => tal 1 wm
  | _, _, .out, wm => tal 1 wm
  | _, _, .lp, wm => (tal 1 wm).bnd fun m => tal 1 m
  | _, lv, .ch, wm => (tal 1 wm).bnd fun m => match tal lv m with
    | .ok n => if lv = 0 then .bad else .ok n
    | _ => .bad
  | 0, _, .call _ _ _, _ => .bad
  | n + 1, _, .call f as gs, wm => match ds.find? fun d => d.n == f with
    | none => .bad
    | some d => match othD d with
      | none => .bad
      | some b => if as.length = d.ps.length ∧ gs.length = d.rs.length ∧ d.row.length ≤ 16 ∧ (bxD d).length ≤ 32 then (tal (1 + 2 * as.length) wm).bnd fun m => (rowOc (wOc ds n (lvOf d b)) d.row m).bnd fun k => tal (lvOf d b) k else .bad
end Ds.K41
namespace Ds.K41
open PySem PySem.Spec PyProof.Rows L2 Dn TL
section
variable {s : St} {Q : Cl → St → Prop}
/-- a dict of names called otherwise -/
def ND (kvs : List (Key × Cl)) : Prop := ∀ k c, valC kvs k = some c → ∃ y : Str, c = .sh (.str y) ∧ Ok 20 y
theorem renamed_ {nl : Nat} {kvs : List (Key × Cl)} {xs : List Str} (hd : s[nl]? = some (.dk kvs)) (hv : ND kvs) (hx : ∀ x ∈ xs, Lo x) (hl : xs.length ≤ 1000) (h : ∀ (ys : List Str) (s' : St), ys.length = xs.length → (∀ y ∈ ys, Ok 40 y) → Fz s s' → Q (.sh (.tuple (ys.map PyData.str))) s') : FRun f_renamed [.sh (.tuple (xs.map PyData.str)), .lo nl] s Q := by
  refine frun_fn rfl ?_
  unfold m_renamed
  repeat walk_at "ds"
  have hnl := lt_of_at hd
  refine run_forL _ (fun i e s' => ∃ (ys : List Str) (z3 z4 : Cl), ys.length = i ∧ (∀ y ∈ ys, Ok 40 y) ∧ Fz s s' ∧ s'[s.length]? = some (.lst ((ys.map PyData.str).map Cl.sh)) ∧ e = [.sh (.tuple (xs.map PyData.str)), .lo nl, .lo s.length, z3, z4]) ⟨[], _, _, rfl, by simp, Fz.app, app_new, rfl⟩ (fun i d e s' hd2 hI => ?_) fun e s' hI => ?_
  · obtain ⟨ys, z3, z4, h1, ho, F, at1, rfl⟩ := hI
    have hi := (List.getElem?_eq_some_iff.mp hd2).1
    rw [List.length_map] at hi
    rw [List.getElem?_map] at hd2
    obtain ⟨x, hx1, rfl⟩ := Option.map_eq_some_iff.mp hd2
    have hxo := hx x (List.mem_of_getElem? hx1)
    have hxl := hxo.1.1
    refine ⟨_, rfl, ?_⟩
    repeat walk_at "ds"
    refine first_name_ (by omega) (only_part hxo) ?_
    repeat walk_at "ds"
    refine ⟨_, at1, ?_⟩
    repeat walk_at "ds"
    refine ⟨_, F.at_ hd, ?_⟩
    repeat walk_at "ds"
    refine ⟨_, _, F.at_ hd, rfl, ?_⟩
    have hg : ∃ y : Str, (valC kvs (Sum.inr x)).getD (.sh (.str x)) = .sh (.str y) ∧ Ok 20 y := by
      cases hq : valC kvs (.inr x) with
      | none => exact ⟨x, rfl, hxo.1.mono (by decide)⟩
      | some c =>
        obtain ⟨y, rfl, hy⟩ := hv _ _ hq
        exact ⟨y, rfl, hy⟩
    obtain ⟨y, hy, hyl⟩ := hg
    rw [hy]
    refine ⟨_, rfl, ?_⟩
    repeat walk_at "ds"
    have hc := hxo.1.cut (some (x.length : Int)) none
    have hyc := (hyl.append hc).mono (show 20 + 8 ≤ 40 by decide)
    have hyl1 := hyl.1
    have hc1 := hc.1
    refine bx_add_str (line_of ?_) ?_
    · omega
    refine ⟨_, at1, line_of (by simp; omega), ?_⟩
    refine turn_nx ?_
    exact ⟨ys ++ [y ++ cutS x (some (x.length : Int)) none], _, _, by simp [h1], fun u hu => (List.mem_append.mp hu).elim (ho u) fun q => by rw [List.mem_singleton.mp q]; exact hyc, F.put (Nat.le_refl _), by rw [set_same (lt_of_at at1)]; simp, rfl⟩
  · obtain ⟨ys, z3, z4, h1, ho, F, at1, rfl⟩ := hI
    rw [List.length_map] at h1
    repeat walk_at "ds"
    refine ⟨_, _, snap_list at1, rfl, ?_⟩
    repeat walk_at "ds"
    exact h ys _ h1 ho F.trim
/-- how a def is left: pairs, other boxes -/
structure LvOk (lv : D) (n : Nat) : Prop where
  h : ∃ (ps : List D) (os : List D), lv = .tuple [.tuple ps, .tuple os] ∧ (∀ p ∈ ps, ∃ a b : Str, p = .tuple [.str a, .str b]) ∧ ps.length ≤ 100 ∧ (∀ d ∈ os, Sh 2 d) ∧ n = 2 * ps.length + (if os = [] then 0 else 1) + 1
def cpy : D → D
  | .tuple [a, b] => .tuple [.str "copy", b, a]
  | d => d
def wpe : D → D
  | .tuple [a, _] => .tuple [.str "wipe", a]
  | d => d
theorem leaf_cpy {p : D} (h : ∃ a b : Str, p = .tuple [.str a, .str b]) : Leaf (cpy p) := by
  obtain ⟨a, b, rfl⟩ := h
  exact ⟨_, _, rfl, by decide, by decide⟩
theorem leaf_wpe {p : D} (h : ∃ a b : Str, p = .tuple [.str a, .str b]) : Leaf (wpe p) := by
  obtain ⟨a, b, rfl⟩ := h
  exact ⟨_, _, rfl, by decide, by decide⟩
theorem put_leaving_ {o st nm wm n : Nat} {W : D} {K : List Str} {lv : D} {ar : Int} {Y : Exn → St → Prop} (P : PS o st W K nm wm s) (L : LvOk lv n) (h : wm + n ≤ 300 → ∀ (ds : List D) s', (∀ d ∈ ds, Leaf d) → ds.length = n → PS o st W K nm (wm + n) s' → Fr o s s' → Q (.sh (.list ds)) s') (hy : 300 < wm + n → ∀ s', Y ⟨"TooLong", none⟩ s') : FRunX Y f_Placing_put_leaving [.lo o, .sh lv, .sh (.int ar)] s Q := by
  obtain ⟨ps, os, rfl, e1, e2, e4, e3⟩ := L.h
  refine frun_fn rfl ?_
  unfold m_Placing_put_leaving
  repeat walk_at "ds"
  refine ⟨line_of (by omega), ?_⟩
  refine run_compF ps (fun _ => true) cpy (fun s' => s' = s) rfl (fun d hd s1 hs => ?_) fun s1 hs => ?_
  · obtain ⟨a, b, rfl⟩ := e1 d hd
    subst hs
    refine ⟨_, rfl, run_yes ⟨rfl, fun _ => ?_, fun z => (nomatch z)⟩⟩
    repeat walk_at "ds"
    exact ⟨rfl, rfl, rfl⟩
  subst hs
  repeat walk_at "ds"
  refine ⟨_, shL_map _, ?_⟩
  repeat walk_at "ds"
  refine ⟨line_of (by omega), ?_⟩
  refine run_compF ps (fun _ => true) wpe (fun s' => s' = s1) rfl (fun d hd s1 hs => ?_) fun s1 hs => ?_
  · obtain ⟨a, b, rfl⟩ := e1 d hd
    subst hs
    refine ⟨_, rfl, run_yes ⟨rfl, fun _ => ?_, fun z => (nomatch z)⟩⟩
    repeat walk_at "ds"
    exact ⟨rfl, rfl, rfl⟩
  subst hs
  repeat walk_at "ds"
  refine ⟨_, shL_map _, ?_⟩
  repeat walk_at "ds"
  have fT : ∀ l : List D, l.filter (fun _ => true) = l := fun l => List.filter_eq_self.mpr (by simp)
  rw [fT]
  refine ⟨_, _, rfl, rfl, line_of (by rw [List.length_map, List.length_map]; omega), ?_⟩
  have at1 : ∀ l : List D, (s1 ++ [Ob.lst (l.map Cl.sh)])[s1.length]? = some (Ob.lst (l.map Cl.sh)) := fun l => app_new
  have lt1 := P.lt
  have ne : PyData.eqv (.tuple os) (.tuple []) = decide (os = []) := by
    cases os <;> rfl
  repeat walk_at "ds"
  refine bx_ne (.inl rfl) (Sh.tup e4).ok (by decide) ?_
  rw [ne]
  have fin : ∀ (xs : List D) (s2 : St), PS o st W K nm wm s2 → Fr o s1 s2 → (∀ d ∈ xs, Leaf d) → xs.length = n → s2[s1.length]? = some (.lst (xs.map Cl.sh)) → ∀ a1 a2 a4 a5 a6 a7 : Cl, RunX (fun y _ s' => Y y s') (mSeq
                      (mExpr
                        (mSh
                          (mD
                            (mMethX (Str.ofString "Placing") (Str.ofString "tally") f_Placing_tally (mLV 0)
                              [mSh (mCallC bLen [mLo (mLV 3)])]))))
                      (mRet (mSh (mSeal (mLV 3))))) [.lo o, a1, a2, .lo s1.length, a4, a5, a6, a7] s2 fun fl e2 s3 => (fl = .nx → Q (.sh .none) (trim s1.length (.sh .none) s3)) ∧ (∀ c, fl = .rt c → Q c (trim s1.length c s3)) ∧ fl ≠ .bk ∧ fl ≠ .ct := by
    intro xs s2 P2 F2 hL hn hat a1 a2 a4 a5 a6 a7
    repeat walk_at "ds"
    refine ⟨_, P2.ob, rfl, ?_⟩
    repeat walk_at "ds"
    refine ⟨_, by unfold snaps; rw [snap_list hat]; rfl, ?_⟩
    repeat walk_at "ds"
    rw [hn]
    refine tally_ P2 (fun hle s3 P3 F3 => ?_) fun hgt s3 => hy hgt s3
    repeat walk_at "ds"
    have at3 := F3.at_ hat (Nat.ne_of_gt lt1.1)
    refine ⟨_, _, at3, shL_map _, ?_⟩
    repeat walk_at "ds"
    refine h hle xs _ hL hn ((P3.of (set_other (Nat.ne_of_lt lt1.1)) (set_other (Nat.ne_of_lt lt1.2))).trim lt1.1 lt1.2) (Fr.trim ((F2.trans F3).put (Nat.le_refl _)))
  have lcw : ∀ d ∈ ps.map cpy ++ ps.map wpe, Leaf d := fun d hd => by
    rcases List.mem_append.mp hd with h | h <;> obtain ⟨p, hp, rfl⟩ := List.mem_map.mp h
    · exact leaf_cpy (e1 p hp)
    · exact leaf_wpe (e1 p hp)
  have lout : Leaf (.tuple [.str "out", .int (ar + 1)]) := ⟨_, _, rfl, by decide, by decide⟩
  have lz : (ps.map cpy ++ ps.map wpe).length = 2 * ps.length := by rw [List.length_append, List.length_map, List.length_map]; omega
  have Pn : ∀ ob, PS o st W K nm wm ((s1 ++ [Ob.lst ((ps.map cpy ++ ps.map wpe).map Cl.sh)]).set s1.length ob) := fun ob => (P.fz Fz.app).of (set_other (Nat.ne_of_lt lt1.1)) (set_other (Nat.ne_of_lt lt1.2))
  by_cases hos : os = []
  · rw [decide_eq_true hos]
    rw [if_pos hos] at e3
    repeat walk_at "ds"
    refine ⟨_, at1 _, ?_⟩
    repeat walk_at "ds"
    refine ⟨_, at1 _, line_of (by rw [List.length_map, lz]; omega), ?_⟩
    refine seq_nx (fin (ps.map cpy ++ ps.map wpe ++ [.tuple [.str "out", .int (ar + 1)]]) _ (Pn _) (fz_fr (Fz.app.put (Nat.le_refl _)) o) (fun d hd => ?_) ?_ ?_ _ _ _ _ _ _)
    · rcases List.mem_append.mp hd with h | h
      · exact lcw d h
      · rw [List.mem_singleton.mp h]; exact lout
    · rw [List.length_append, lz, e3]
      rfl
    · rw [set_same (by simp)]
      simp only [List.map_append, List.map_cons, List.map_nil]
  · rw [decide_eq_false hos]
    rw [if_neg hos] at e3
    repeat walk_at "ds"
    refine ⟨_, at1 _, ?_⟩
    repeat walk_at "ds"
    refine ⟨_, at1 _, line_of (by rw [List.length_map, lz]; omega), ?_⟩
    have at2 : ∀ ob, ((s1 ++ [Ob.lst ((ps.map cpy ++ ps.map wpe).map Cl.sh)]).set s1.length ob)[s1.length]? = some ob := fun ob => set_same (by simp)
    repeat walk_at "ds"
    refine ⟨_, at2 _, ?_⟩
    repeat walk_at "ds"
    refine ⟨_, at2 _, line_of (by rw [List.length_append, List.length_map, lz]; simp; omega), ?_⟩
    have ldr : Leaf (.tuple [.str "drop", .tuple os]) := ⟨_, _, rfl, by decide, by decide⟩
    refine seq_nx (fin (ps.map cpy ++ ps.map wpe ++ [.tuple [.str "drop", .tuple os], .tuple [.str "out", .int (ar + 1)]]) _ ((Pn _).of (set_other (Nat.ne_of_lt lt1.1)) (set_other (Nat.ne_of_lt lt1.2))) (fz_fr ((Fz.app.put (Nat.le_refl _)).put (Nat.le_refl _)) o) (fun d hd => ?_) ?_ ?_ _ _ _ _ _ _)
    · rcases List.mem_append.mp hd with h | h
      · exact lcw d h
      · rcases List.mem_cons.mp h with rfl | h
        · exact ldr
        · rw [List.mem_singleton.mp h]; exact lout
    · rw [List.length_append, lz, e3]
      rfl
    · rw [set_same (by simp)]
      simp only [List.map_append, List.map_cons, List.map_nil, List.append_assoc, List.cons_append, List.nil_append]
end
end Ds.K41
namespace Ds.K41
open PySem PySem.Spec PyProof.Rows L2 Dn TL
def srt (L : List Str) : List Str := sortT (metT L)
theorem srt_mem {L : List Str} {x : Str} : x ∈ srt L ↔ x ∈ L := by
  unfold srt sortT
  rw [List.mem_mergeSort, mem_metT]
theorem srt_len {L : List Str} : (srt L).length ≤ L.length := by
  unfold srt sortT
  rw [List.length_mergeSort]
  exact metT_len L
end Ds.K41
namespace Ds.K41
open PySem PySem.Spec PyProof.Rows L2 Dn TL
section
variable {s : St} {Q : Cl → St → Prop} {N : Nat → Str}
theorem boxes_of_ {w : Wk} (hl : (bxW w).length ≤ 100) (k : Q (.sh (.tuple ((tx N (bxW w)).map PyData.str))) s) : FRun f_boxes_of [.sh (encW N w)] s Q := by
  refine frun_fn rfl ?_
  unfold m_boxes_of
  cases w with
  | call f as gs =>
    have hl : (as ++ gs).length ≤ 100 := hl
    rw [List.length_append] at hl
    repeat walk_at "ds"
    refine bx_add_tup (line_of (by simp [tx]; omega)) ?_
    repeat walk_at "ds"
    rw [trim_len rfl, ← List.map_append]
    show Q (.sh (.tuple (List.map PyData.str (as.map N ++ gs.map N)))) s
    rw [← List.map_append]
    exact k
  | _ =>
    repeat walk_at "ds"
    rw [trim_len rfl]
    exact k
/-- rows without boxes and rows -/
def Qr (d : D) : Prop := ∃ ws, d = .tuple ws ∧ ws.length ≤ 1 ∧ ∀ w ∈ ws, w = outD ∨ w = backD
theorem rows_in_ {w : Wk} (k : ∀ rs, (∀ d ∈ rs, Qr d) → rs.length ≤ 2 → Q (.sh (.tuple rs)) s) : FRun f_rows_in [.sh (encW N w)] s Q := by
  refine frun_fn rfl ?_
  unfold m_rows_in
  cases w <;>
  · repeat walk_at "ds"
    rw [trim_len rfl]
    refine k _ (fun d hd => ?_) (by simp)
    first
      | exact absurd hd List.not_mem_nil
      | (rw [List.mem_singleton.mp hd]; exact ⟨_, rfl, by simp, by simp⟩)
      | (rcases List.mem_cons.mp hd with rfl | h
         · exact ⟨_, rfl, by simp, by simp⟩
         · rw [List.mem_singleton.mp h]; exact ⟨_, rfl, by simp, by simp⟩)
theorem rows_in_q {w : D} (hw : w = outD ∨ w = backD) (k : Q (.sh (.tuple [])) s) : FRun f_rows_in [.sh w] s Q := by
  refine frun_fn rfl ?_
  unfold m_rows_in
  rcases hw with rfl | rfl <;>
  · try unfold outD
    try unfold backD
    repeat walk_at "ds"
    rw [trim_len rfl]
    exact k
theorem boxes_of_q {w : D} (hw : w = outD ∨ w = backD) (k : Q (.sh (.tuple [])) s) : FRun f_boxes_of [.sh w] s Q := by
  refine frun_fn rfl ?_
  unfold m_boxes_of
  rcases hw with rfl | rfl <;>
  · try unfold outD
    try unfold backD
    repeat walk_at "ds"
    rw [trim_len rfl]
    exact k
theorem boxes_in_q {j : Nat} {d : D} (hd : Qr d) (k : ∀ s', Fz s s' → Q (.sh (.tuple [])) s') : FRun (f_G5 (j + 1) 0) [.sh d] s Q := by
  obtain ⟨ws, rfl, hl, hw⟩ := hd
  show FRun (fnF 1 4 (m_boxes_in (f_G5 j))) _ _ _
  refine frun_fn rfl ?_
  unfold m_boxes_in
  repeat walk_at "ds"
  refine run_forR _ (fun r e s' => ∃ (z2 z3 : Cl), (∀ w ∈ r, w = outD ∨ w = backD) ∧ Fz s s' ∧ s'[s.length]? = some (.lst []) ∧ e = [.sh (.tuple ws), .lo s.length, z2, z3]) ⟨_, _, hw, Fz.app, app_new, rfl⟩ (fun d r e s' hI => ?_) fun e s' hI => ?_
  · obtain ⟨z2, z3, hr, F, at1, rfl⟩ := hI
    have hd := hr d List.mem_cons_self
    refine ⟨_, rfl, ?_⟩
    repeat walk_at "ds"
    refine ⟨_, at1, ?_⟩
    repeat walk_at "ds"
    refine boxes_of_q hd ?_
    repeat walk_at "ds"
    refine ⟨_, _, _, at1, rfl, rfl, line_of (by simp), ?_⟩
    repeat walk_at "ds"
    refine rows_in_q hd ?_
    repeat walk_at "ds"
    exact ⟨_, _, fun w hw => hr w (List.mem_cons_of_mem _ hw), F.put (Nat.le_refl _), set_same (lt_of_at at1), rfl⟩
  · obtain ⟨z2, z3, hr, F, at1, rfl⟩ := hI
    refine seq_nx ?_
    repeat walk_at "ds"
    refine ⟨_, _, _, snap_list (ds := []) at1, rfl, rfl, by decide, ?_⟩
    repeat walk_at "ds"
    rw [show sortT (metT []) = ([] : List Str) from List.eq_nil_of_length_eq_zero (Nat.le_zero.mp (srt_len (L := [])))]
    exact k _ F.trim
theorem boxes_in_ {j : Nat} {ws : List Wk} (hb : (bxR ws).length ≤ 32) (k : ∀ s', Fz s s' → Q (.sh (.tuple ((srt (tx N (bxR ws))).map PyData.str))) s') : FRun (f_G5 (j + 2) 0) [.sh (encR N ws)] s Q := by
  show FRun (fnF 1 4 (m_boxes_in (f_G5 (j + 1)))) _ _ _
  refine frun_fn rfl ?_
  unfold m_boxes_in encR
  repeat walk_at "ds"
  refine run_forR _ (fun r e s' => ∃ (dn rs : List Wk) (z2 z3 : Cl), r = rs.map (encW N) ∧ ws = dn ++ rs ∧ Fz s s' ∧ s'[s.length]? = some (.lst (((tx N (bxR dn)).map PyData.str).map Cl.sh)) ∧ e = [.sh (.tuple (ws.map (encW N))), .lo s.length, z2, z3]) ⟨[], ws, _, _, rfl, rfl, Fz.app, app_new, rfl⟩ (fun d r e s' hI => ?_) fun e s' hI => ?_
  · obtain ⟨dn, rs, z2, z3, e1, e2, F, at1, rfl⟩ := hI
    cases rs with
    | nil => cases e1
    | cons w rs =>
    obtain ⟨rfl, rfl⟩ := List.cons.inj e1
    have bl : (bxR dn).length + (bxW w).length ≤ 32 := by
      rw [e2] at hb
      unfold bxR at *
      rw [List.flatMap_append, List.flatMap_cons, List.length_append, List.length_append] at hb
      omega
    have bl2 : (tx N (bxR (dn ++ [w]))).length ≤ 32 := by
      unfold tx
      rw [List.length_map]
      unfold bxR at *
      rw [List.flatMap_append, List.length_append]
      simp only [List.flatMap_cons, List.flatMap_nil, List.append_nil]
      exact bl
    refine ⟨_, rfl, ?_⟩
    repeat walk_at "ds"
    refine ⟨_, at1, ?_⟩
    repeat walk_at "ds"
    refine boxes_of_ (by omega) ?_
    repeat walk_at "ds"
    refine ⟨_, _, _, at1, rfl, rfl, line_of (by simp [tx]; omega), ?_⟩
    repeat walk_at "ds"
    refine rows_in_ fun irs hq hl2 => ?_
    repeat walk_at "ds"
    have at2 : ∀ ob, (s'.set s.length ob)[s.length]? = some ob := fun ob => set_same (lt_of_at at1)
    refine run_forR _ (fun r e s2 => ∃ z3 : Cl, (∀ d ∈ r, Qr d) ∧ Fz s s2 ∧ s2[s.length]? = some (.lst (((tx N (bxR (dn ++ [w]))).map PyData.str).map Cl.sh)) ∧ e = [.sh (.tuple (ws.map (encW N))), .lo s.length, .sh (encW N w), z3]) ⟨_, hq, F.put (Nat.le_refl _), ?_, rfl⟩ (fun d2 r2 e2' s2 hJ => ?_) fun e2' s2 hJ => ?_
    · rw [at2]
      unfold bxR tx
      simp
    · obtain ⟨z3, hr2, F2, at3, rfl⟩ := hJ
      refine ⟨_, rfl, ?_⟩
      repeat walk_at "ds"
      refine ⟨_, at3, ?_⟩
      repeat walk_at "ds"
      refine boxes_in_q (hr2 _ List.mem_cons_self) fun s3 F3 => ?_
      repeat walk_at "ds"
      refine ⟨_, _, _, F3.at_ at3, rfl, rfl, line_of ?_, ?_⟩
      · have := bl2
        simp only [List.length_map, List.length_nil]
        omega
      refine turn_nx ?_
      refine ⟨_, fun d hd => hr2 d (List.mem_cons_of_mem _ hd), (F2.trans F3).put (Nat.le_refl _), ?_, rfl⟩
      rw [set_same (lt_of_at (F3.at_ at3))]
      simp
    · obtain ⟨z3, hr2, F2, at3, rfl⟩ := hJ
      refine turn_nx ?_
      exact ⟨dn ++ [w], rs, _, _, rfl, by rw [e2]; simp, F2, at3, rfl⟩
  · obtain ⟨dn, rs, z2, z3, e1, e2, F, at1, rfl⟩ := hI
    cases rs with
    | cons w rs => cases e1
    | nil =>
    rw [List.append_nil] at e2
    subst e2
    refine seq_nx ?_
    repeat walk_at "ds"
    refine ⟨_, _, _, snap_list at1, rfl, toSs_map _, by show (tx N (bxR ws)).length + 1 < 4096; unfold tx; rw [List.length_map]; omega, ?_⟩
    repeat walk_at "ds"
    exact k _ F.trim
end
end Ds.K41
namespace Ds.K41
open PySem PySem.Spec PyProof.Rows L2 Dn TL
theorem putC_mem {kvs : List (Key × Cl)} {k : Key} {c : Cl} {kv : Key × Cl} (h : kv ∈ putC kvs k c) : (kv.1 = k ∧ kv.2 = c) ∨ kv ∈ kvs := by
  unfold putC at h
  split at h
  · obtain ⟨x, hx, e⟩ := List.mem_map.mp h
    split at e
    · rename_i hk
      subst e
      exact .inl ⟨hk, rfl⟩
    · subst e
      exact .inr hx
  · rcases List.mem_append.mp h with h | h
    · exact .inr h
    · rw [List.mem_singleton.mp h]
      exact .inl ⟨rfl, rfl⟩
theorem putC_len {kvs : List (Key × Cl)} {k : Key} {c : Cl} : (putC kvs k c).length ≤ kvs.length + 1 := by
  unfold putC
  split
  · rw [List.length_map]; omega
  · rw [List.length_append]; exact Nat.le_refl _
theorem valC_mem {kvs : List (Key × Cl)} {k : Key} {c : Cl} (h : valC kvs k = some c) : (k, c) ∈ kvs := by
  unfold valC at h
  obtain ⟨kv, h1, h2⟩ := Option.map_eq_some_iff.mp h
  have h3 := List.mem_of_find?_eq_some h1
  have h4 : decide (kv.1 = k) = true := List.find?_some (p := fun kv : Key × Cl => decide (kv.1 = k)) h1
  have h4 := of_decide_eq_true h4
  subst h4 h2
  exact h3
theorem at0 (d : D) (r : List D) : atI (d :: r) 0 = some d := by
  unfold atI ixN
  rw [if_pos (by omega), if_pos (by rw [List.length_cons]; omega)]
  rfl
/-- keys are names -/
def LK (kvs : List (Key × Cl)) : Prop := ∀ kv ∈ kvs, ∃ x, kv.1 = .inr x ∧ Lo x
theorem LK.put {kvs : List (Key × Cl)} {x : Str} {c : Cl} (h : LK kvs) (hx : Lo x) : LK (putC kvs (.inr x) c) := fun kv hk => by
  rcases putC_mem hk with ⟨h1, _⟩ | h1
  · exact ⟨x, h1, hx⟩
  · exact h kv h1
theorem tx_lo {N : Nat → Str} (hN : NmOk N) {l : List Nat} {x : Str} (h : x ∈ tx N l) : Lo x := by
  obtain ⟨i, _, rfl⟩ := List.mem_map.mp h
  exact hN i
end Ds.K41
namespace Ds.K41
open PySem PySem.Spec PyProof.Rows L2 Dn TL
section
variable {s : St} {Q : Cl → St → Prop} {N : Nat → Str}
theorem names_in_q {j : Nat} {d : D} (hd : Qr d) (k : ∀ l s', s.length ≤ l → s'[l]? = some (.dk []) → Fz s s' → Q (.lo l) s') : FRun (f_G6 (j + 1) 0) [.sh d] s Q := by
  have hd' := hd
  obtain ⟨ws, rfl, hl, hw⟩ := hd
  show FRun (fnF 1 5 (m_names_in (f_G6 j))) _ _ _
  refine frun_fn rfl ?_
  unfold m_names_in
  repeat walk_at "ds"
  refine boxes_in_q hd' fun s1 F1 => ?_
  have at1 := F1.at_ (app_new (s := s) (o := Ob.dk []))
  have F1' := Fz.app.trans F1
  repeat walk_at "ds"
  refine run_forR _ (fun r e s' => ∃ (z2 z3 z4 : Cl), (∀ w ∈ r, w = outD ∨ w = backD) ∧ Fz s s' ∧ s'[s.length]? = some (.dk []) ∧ e = [.sh (.tuple ws), .lo s.length, z2, z3, z4]) ⟨_, _, _, hw, F1', at1, rfl⟩ (fun d r e s' hI => ?_) fun e s' hI => ?_
  · obtain ⟨z2, z3, z4, hr, F, at1, rfl⟩ := hI
    have hd := hr d List.mem_cons_self
    refine ⟨_, rfl, ?_⟩
    have hx : ∃ w r, d = .tuple (.str w :: r) ∧ decide (w = ("clear" : Str)) = false := by
      rcases hd with rfl | rfl
      · exact ⟨_, _, rfl, by decide⟩
      · exact ⟨_, _, rfl, by decide⟩
    obtain ⟨w, r', e1, e2⟩ := hx
    subst e1
    repeat walk_at "ds"
    refine bx_ix_tup (d := .str w) (at0 _ _) ?_
    repeat walk_at "ds"
    rw [e2]
    repeat walk_at "ds"
    refine rows_in_q hd ?_
    repeat walk_at "ds"
    exact ⟨_, _, _, fun w hw => hr w (List.mem_cons_of_mem _ hw), F, at1, rfl⟩
  · obtain ⟨z2, z3, z4, hr, F, at1, rfl⟩ := hI
    repeat walk_at "ds"
    rw [trim_lo (Nat.le_refl _)]
    exact k _ _ (Nat.le_refl _) at1 F
theorem names_in_ {j : Nat} {ws : List Wk} (hN : NmOk N) (hb : (bxR ws).length ≤ 32) (k : ∀ l s' kvs, s.length ≤ l → s'[l]? = some (.dk kvs) → LK kvs → kvs.length ≤ 32 → Fz s s' → Q (.lo l) s') : FRun (f_G6 (j + 2) 0) [.sh (encR N ws)] s Q := by
  show FRun (fnF 1 5 (m_names_in (f_G6 (j + 1)))) _ _ _
  refine frun_fn rfl ?_
  unfold m_names_in
  repeat walk_at "ds"
  refine boxes_in_ hb fun s1 F1 => ?_
  have at1 := F1.at_ (app_new (s := s) (o := Ob.dk []))
  have F1' := Fz.app.trans F1
  have sl := srt_len (L := tx N (bxR ws))
  have tl0 : (tx N (bxR ws)).length = (bxR ws).length := by unfold tx; rw [List.length_map]
  repeat walk_at "ds"
  refine run_forL _ (fun i e s' => ∃ (z2 z3 z4 : Cl) (kvs : List (Key × Cl)), Fz s s' ∧ s'[s.length]? = some (.dk kvs) ∧ LK kvs ∧ kvs.length ≤ i ∧ e = [.sh (encR N ws), .lo s.length, z2, z3, z4]) ⟨_, _, _, [], F1', at1, fun kv h => (nomatch h), Nat.le_refl _, rfl⟩ (fun i d e s' hd hI => ?_) fun e s' hI => ?_
  · obtain ⟨z2, z3, z4, kvs, F, at2, hk, hl, rfl⟩ := hI
    have hi := (List.getElem?_eq_some_iff.mp hd).1
    rw [List.length_map] at hi
    obtain ⟨x, hx, rfl⟩ := List.mem_map.mp (List.mem_of_getElem? hd)
    have hxo := tx_lo hN (srt_mem.mp hx)
    have := hxo.1.1
    refine ⟨_, rfl, ?_⟩
    repeat walk_at "ds"
    refine first_name_ (by omega) (only_part hxo) ?_
    repeat walk_at "ds"
    refine ⟨_, _, at2, rfl, line_of (by omega), ?_⟩
    refine turn_nx ?_
    exact ⟨_, _, _, _, F.put (Nat.le_refl _), set_same (lt_of_at at2), hk.put hxo, Nat.le_trans putC_len (by omega), rfl⟩
  · obtain ⟨z2, z3, z4, kvs, F, at2, hk, hl, rfl⟩ := hI
    rw [List.length_map] at hl
    refine seq_nx ?_
    unfold encR
    repeat walk_at "ds"
    refine run_forR _ (fun r e s' => ∃ (z2 z3 z4 : Cl) (rs : List Wk), r = rs.map (encW N) ∧ Fz s s' ∧ s'[s.length]? = some (.dk kvs) ∧ e = [.sh (encR N ws), .lo s.length, z2, z3, z4]) ⟨_, _, _, ws, rfl, F, at2, rfl⟩ (fun d r e s' hI => ?_) fun e s' hI => ?_
    · obtain ⟨z2, z3, z4, rs, e1, F, at2, rfl⟩ := hI
      cases rs with
      | nil => cases e1
      | cons w rs =>
      obtain ⟨rfl, rfl⟩ := List.cons.inj e1
      refine ⟨_, rfl, ?_⟩
      have hx : ∃ x r, encW N w = .tuple (.str x :: r) ∧ decide (x = ("clear" : Str)) = false := by
        cases w <;> exact ⟨_, _, rfl, by decide⟩
      obtain ⟨x, r', e2, e3⟩ := hx
      rw [e2]
      repeat walk_at "ds"
      refine bx_ix_tup (d := .str x) (at0 _ _) ?_
      repeat walk_at "ds"
      rw [e3]
      repeat walk_at "ds"
      rw [← e2]
      refine rows_in_ fun irs hq hl2 => ?_
      repeat walk_at "ds"
      refine run_forR _ (fun r e s2 => ∃ z4 : Cl, (∀ d ∈ r, Qr d) ∧ Fz s s2 ∧ s2[s.length]? = some (.dk kvs) ∧ e = [.sh (encR N ws), .lo s.length, z2, .sh (encW N w), z4]) ⟨_, hq, F, at2, rfl⟩ (fun d2 r2 e2' s2 hJ => ?_) fun e2' s2 hJ => ?_
      · obtain ⟨z4, hr2, F2, at3, rfl⟩ := hJ
        refine ⟨_, rfl, ?_⟩
        repeat walk_at "ds"
        refine ⟨_, at3, ?_⟩
        repeat walk_at "ds"
        refine names_in_q (hr2 _ List.mem_cons_self) fun l s3 hl3 at4 F3 => ?_
        repeat walk_at "ds"
        have ll := lt_of_at at3
        refine ⟨_, _, F3.at_ at3, at4, ⟨by omega, by simp only [List.length_nil]; exact line_of (by omega)⟩, ?_⟩
        refine turn_nx ?_
        exact ⟨_, fun d hd => hr2 d (List.mem_cons_of_mem _ hd), (F2.trans F3).put (Nat.le_refl _), set_same (lt_of_at (F3.at_ at3)), rfl⟩
      · obtain ⟨z4, hr2, F2, at3, rfl⟩ := hJ
        refine turn_nx ?_
        exact ⟨_, _, _, rs, rfl, F2, at3, rfl⟩
    · obtain ⟨z2, z3, z4, rs, e1, F, at2, rfl⟩ := hI
      repeat walk_at "ds"
      rw [trim_lo (Nat.le_refl _)]
      exact k _ _ _ (Nat.le_refl _) at2 hk (by omega) F
end
end Ds.K41
namespace Ds.K41
open PySem PySem.Spec PyProof.Rows L2 Dn TL
def rowOf {α : Type} (f : α → Nat → Oc) : List α → Nat → Oc
  | [], wm => .ok wm
  | w :: ws, wm => (f w wm).bnd fun m => rowOf f ws m
theorem rowOf_wk (f : Wk → Nat → Oc) : ∀ (ws : List Wk) (wm : Nat), rowOf f ws wm = rowOc f ws wm
  | [], _ => rfl
  | w :: ws, wm => by
    show (f w wm).bnd _ = (f w wm).bnd _
    rw [show (fun m => rowOf f ws m) = fun m => rowOc f ws m from funext fun m => rowOf_wk f ws m]
theorem tal_ok {n wm m : Nat} (h : tal n wm = .ok m) : wm + n ≤ 300 ∧ m = wm + n := by
  unfold tal at h
  split at h
  · cases h; exact ⟨by assumption, rfl⟩
  · cases h
theorem tal_le {n wm : Nat} (h : wm + n ≤ 300) : tal n wm = .ok (wm + n) := if_pos h
theorem tal_tl {n wm : Nat} (h : 300 < wm + n) : tal n wm = .tl := if_neg (by omega)
theorem tal_nb {n wm : Nat} : tal n wm ≠ .bad := by
  unfold tal
  split <;> intro z <;> cases z
/-- what a word's placing is to do -/
structure Env4 (N : Nat → Str) (o st : Nat) (W : D) (K : List Str) (nl : Nat) (kvs : List (Key × Cl)) (nm wm : Nat) (s : St) : Prop where
  P : PS o st W K nm wm s
  b : nm ≤ 900 * wm
  w : wm ≤ 300
  d : s[nl]? = some (.dk kvs)
  nd : ND kvs
  ne : nl ≠ o
theorem Env4.fr {N : Nat → Str} {o st : Nat} {W : D} {K : List Str} {nl : Nat} {kvs : List (Key × Cl)} {nm wm nm' wm' : Nat} {s s' : St} (E : Env4 N o st W K nl kvs nm wm s) (F : Fr o s s') (P' : PS o st W K nm' wm' s') (hb : nm' ≤ 900 * wm') (hw : wm' ≤ 300) : Env4 N o st W K nl kvs nm' wm' s' := ⟨P', hb, hw, F.at_ E.d E.ne, E.nd, E.ne⟩
/-- the def F puts things in place: words w (told as lists), of which f tells the count -/
def PutsW (N : Nat → Str) (o st : Nat) (W : D) (K : List Str) (nl : Nat) (kvs : List (Key × Cl)) (j : Nat) (F : Fn) (as : List Cl) (mk : List D → D) (f : Nat → Oc) : Prop :=
  ∀ {nm wm : Nat} {s : St} {Q : Cl → St → Prop} {Y : Exn → St → Prop}, Env4 N o st W K nl kvs nm wm s → f wm ≠ .bad →
    (∀ (ds : List D) (m nm' : Nat) (s' : St), f wm = .ok m → wm ≤ m → CR (CW j) ds (m - wm) → Env4 N o st W K nl kvs nm' m s' → Fr o s s' → Q (.sh (mk ds)) s') →
    (f wm = .tl → ∀ s', Y ⟨"TooLong", none⟩ s') → FRunX Y F as s Q
end Ds.K41
namespace Ds.K41
open PySem PySem.Spec PyProof.Rows L2 Dn TL
section
variable {N : Nat → Str} {o st : Nat} {W : D} {K : List Str} {nl : Nat} {kvs : List (Key × Cl)} {j : Nat} {lvD : D} {ar : Int}
theorem row_ {α : Type} (enc : α → D) (f : α → Nat → Oc) {k : Nat} (as : List α) (hl : as.length ≤ 1000) (hw : ∀ a ∈ as, PutsW N o st W K nl kvs j (f_G14 k 1) [.lo o, .sh (enc a), .lo nl, .sh lvD, .sh (.int ar)] PyData.list (f a)) :
    PutsW N o st W K nl kvs j (f_G14 (k + 1) 0) [.lo o, .sh (.tuple (as.map enc)), .lo nl, .sh lvD, .sh (.int ar)] PyData.tuple (rowOf f as) := by
  intro nm wm s Q Y E hnb h hy
  show FRunX Y (fnF 5 7 (m_Placing_put_row (f_G14 k))) _ _ _
  refine frun_fn rfl ?_
  unfold m_Placing_put_row
  repeat walk_at "ds"
  have lto := E.P.lt
  have ltn := lt_of_at E.d
  refine run_forR _ (fun r e s' => ∃ (rs : List α) (ys : List D) (m nm' : Nat) (z : Cl), r = rs.map enc ∧ (∀ a ∈ rs, a ∈ as) ∧ rowOf f as wm = rowOf f rs m ∧ wm ≤ m ∧ CR (CW j) ys (m - wm) ∧ Env4 N o st W K nl kvs nm' m s' ∧ Fr o s s' ∧ s'[s.length]? = some (.lst (ys.map Cl.sh)) ∧ e = [.lo o, .sh (.tuple (as.map enc)), .lo nl, .sh lvD, .sh (.int ar), .lo s.length, z])
    ⟨as, [], wm, nm, _, rfl, fun _ h => h, rfl, Nat.le_refl _, (by rw [Nat.sub_self]; exact rfl), E.fr Fr.app (E.P.fz Fz.app) E.b E.w, Fr.app, app_new, rfl⟩ (fun d r e s' hI => ?_) fun e s' hI => ?_
  · obtain ⟨rs, ys, m, nm', z, e1, hs, e2, hm, hc, E', F, at1, rfl⟩ := hI
    cases rs with
    | nil => cases e1
    | cons a rs =>
    obtain ⟨rfl, rfl⟩ := List.cons.inj e1
    have nb : f a m ≠ .bad := fun z => hnb (by rw [e2]; unfold rowOf; rw [z]; rfl)
    refine ⟨_, rfl, ?_⟩
    repeat walk_at "ds"
    refine ⟨_, at1, ?_⟩
    repeat walk_at "ds"
    refine ⟨_, E'.P.ob, rfl, ?_⟩
    repeat walk_at "ds"
    refine hw a (hs a List.mem_cons_self) E' nb (fun ds m2 nm2 s2 g1 g2 g3 E2 F2 => ?_) fun g s2 => hy (by rw [e2]; unfold rowOf; rw [g]; rfl) s2
    have at2 := F2.at_ at1 (by omega)
    have l1 := hc.len
    have l2 := g3.len
    have w2 := E2.w
    repeat walk_at "ds"
    refine ⟨_, _, _, at2, rfl, rfl, line_of (by rw [List.length_map]; omega), ?_⟩
    refine turn_nx ?_
    have hb2 : (s2.set s.length (Ob.lst (ys.map Cl.sh ++ ds.map Cl.sh))).length = s2.length := by simp
    refine ⟨rs, ys ++ ds, m2, nm2, _, rfl, fun a ha => hs a (List.mem_cons_of_mem _ ha), by rw [e2]; show (f a m).bnd _ = _; rw [g1]; rfl, by omega, ?_, ⟨E2.P.of (set_other (by omega)) (set_other (by omega)), E2.b, E2.w, (set_other (by omega)).trans E2.d, E2.nd, E2.ne⟩, (F.trans F2).put (Nat.le_refl _), ?_, rfl⟩
    · rw [show m2 - wm = (m - wm) + (m2 - m) by omega]
      exact hc.app g3
    · rw [set_same (lt_of_at at2)]
      simp only [List.map_append]
  · obtain ⟨rs, ys, m, nm', z, e1, hs, e2, hm, hc, E', F, at1, rfl⟩ := hI
    cases rs with
    | cons w rs => cases e1
    | nil =>
    repeat walk_at "ds"
    refine ⟨_, _, snap_list at1, rfl, ?_⟩
    repeat walk_at "ds"
    refine h ys m nm' _ (by rw [e2]; rfl) hm hc ⟨E'.P.trim lto.1 lto.2, E'.b, E'.w, (trim_get ltn).trans E'.d, E'.nd, E'.ne⟩ F.trim
theorem out_word {k : Nat} : PutsW N o st W K nl kvs j (f_G14 (k + 1) 1) [.lo o, .sh outD, .lo nl, .sh lvD, .sh (.int ar)] PyData.list (tal 1) := by
  intro nm wm s Q Y E hnb h hy
  have lto := E.P.lt
  have ltn := lt_of_at E.d
  show FRunX Y (fnF 5 6 (m_Placing_put_word (f_G14 k))) _ _ _
  refine frun_fn rfl ?_
  unfold m_Placing_put_word outD
  repeat walk_at "ds"
  refine ⟨_, E.P.ob, rfl, ?_⟩
  repeat walk_at "ds"
  refine tally_ (n := 1) E.P (fun hle s1 P1 F1 => ?_) fun hgt s1 => hy (tal_tl hgt) s1
  repeat walk_at "ds"
  have := E.b
  refine h [outD] (wm + 1) nm _ (tal_le hle) (by omega) ?_ ⟨P1.trim lto.1 lto.2, by omega, hle, (trim_get ltn).trans (F1.at_ E.d E.ne), E.nd, E.ne⟩ F1.trim
  rw [show wm + 1 - wm = 1 by omega]
  exact CR.one (CW.leaf ⟨_, _, rfl, by decide, by decide⟩)
theorem back_word {k n : Nat} (L : LvOk lvD n) : PutsW N o st W K nl kvs j (f_G14 (k + 1) 1) [.lo o, .sh backD, .lo nl, .sh lvD, .sh (.int ar)] PyData.list (tal n) := by
  intro nm wm s Q Y E hnb h hy
  have lto := E.P.lt
  have ltn := lt_of_at E.d
  show FRunX Y (fnF 5 6 (m_Placing_put_word (f_G14 k))) _ _ _
  refine frun_fn rfl ?_
  have L' := L
  obtain ⟨ps, os, e0, e1, e2, e4, e3⟩ := L.h
  unfold m_Placing_put_word backD
  subst e0
  repeat walk_at "ds"
  refine ⟨_, E.P.ob, rfl, ?_⟩
  repeat walk_at "ds"
  refine put_leaving_ E.P L' (fun hle ds s1 hL hn P1 F1 => ?_) fun hgt s1 => hy (tal_tl hgt) s1
  repeat walk_at "ds"
  have := E.b
  refine h ds (wm + n) nm _ (tal_le hle) (by omega) ?_ ⟨P1.trim lto.1 lto.2, by omega, hle, (trim_get ltn).trans (F1.at_ E.d E.ne), E.nd, E.ne⟩ F1.trim
  rw [show wm + n - wm = ds.length by omega]
  exact CR.leaves hL
end
end Ds.K41
namespace Ds.K41
open PySem PySem.Spec PyProof.Rows L2 Dn TL
section
variable {N : Nat → Str} {o st : Nat} {W : D} {K : List Str} {nl : Nat} {kvs : List (Key × Cl)} {j : Nat} {lvD : D} {ar : Int}
theorem tell_word (hN : NmOk N) {k x : Nat} : PutsW N o st W K nl kvs j (f_G14 (k + 1) 1) [.lo o, .sh (.tuple [.str "tell", .str (N x)]), .lo nl, .sh lvD, .sh (.int ar)] PyData.list (tal 1) := by
  intro nm wm s Q Y E hnb h hy
  try dsimp only at hnb h hy
  have lto := E.P.lt
  have ltn := lt_of_at E.d
  show FRunX Y (fnF 5 6 (m_Placing_put_word (f_G14 k))) _ _ _
  refine frun_fn rfl ?_
  unfold m_Placing_put_word
  repeat walk_at "ds"
  refine ⟨_, E.P.ob, rfl, ?_⟩
  repeat walk_at "ds"
  refine tally_ (n := 1) E.P (fun hle s1 P1 F1 => ?_) fun hgt s1 => hy (tal_tl hgt) s1
  have hd1 := F1.at_ E.d E.ne
  repeat walk_at "ds"
  refine renamed_ (xs := [N x]) hd1 E.nd (fun y hy => by rw [List.mem_singleton.mp hy]; exact hN x) (by simp) fun ys s2 hl ho F2 => ?_
  repeat walk_at "ds"
  have hl1 : ys.length = 1 := hl
  refine bx_add_tup (line_of (by rw [List.length_map, hl1]; decide)) ?_
  repeat walk_at "ds"
  have := E.b
  refine h [.tuple ([.str "tell"] ++ ys.map PyData.str)] (wm + 1) nm _ (tal_le hle) (by omega) ?_ ⟨(P1.fz F2).trim lto.1 lto.2, by omega, hle, (trim_get ltn).trans (F2.at_ hd1), E.nd, E.ne⟩ (F1.trans (fz_fr F2 o)).trim
  rw [show wm + 1 - wm = 1 by omega]
  exact CR.one (CW.leaf ⟨_, _, rfl, by decide, by decide⟩)
theorem wipe_word (hN : NmOk N) {k x : Nat} : PutsW N o st W K nl kvs j (f_G14 (k + 1) 1) [.lo o, .sh (.tuple [.str "wipe", .str (N x)]), .lo nl, .sh lvD, .sh (.int ar)] PyData.list (tal 1) := by
  intro nm wm s Q Y E hnb h hy
  try dsimp only at hnb h hy
  have lto := E.P.lt
  have ltn := lt_of_at E.d
  show FRunX Y (fnF 5 6 (m_Placing_put_word (f_G14 k))) _ _ _
  refine frun_fn rfl ?_
  unfold m_Placing_put_word
  repeat walk_at "ds"
  refine ⟨_, E.P.ob, rfl, ?_⟩
  repeat walk_at "ds"
  refine tally_ (n := 1) E.P (fun hle s1 P1 F1 => ?_) fun hgt s1 => hy (tal_tl hgt) s1
  have hd1 := F1.at_ E.d E.ne
  repeat walk_at "ds"
  refine renamed_ (xs := [N x]) hd1 E.nd (fun y hy => by rw [List.mem_singleton.mp hy]; exact hN x) (by simp) fun ys s2 hl ho F2 => ?_
  repeat walk_at "ds"
  have hl1 : ys.length = 1 := hl
  refine bx_add_tup (line_of (by rw [List.length_map, hl1]; decide)) ?_
  repeat walk_at "ds"
  have := E.b
  refine h [.tuple ([.str "wipe"] ++ ys.map PyData.str)] (wm + 1) nm _ (tal_le hle) (by omega) ?_ ⟨(P1.fz F2).trim lto.1 lto.2, by omega, hle, (trim_get ltn).trans (F2.at_ hd1), E.nd, E.ne⟩ (F1.trans (fz_fr F2 o)).trim
  rw [show wm + 1 - wm = 1 by omega]
  exact CR.one (CW.leaf ⟨_, _, rfl, by decide, by decide⟩)
theorem lp_word {k : Nat} : PutsW N o st W K nl kvs (j + 1) (f_G14 (k + 3) 1) [.lo o, .sh (.tuple [.str "loop", .tuple [outD]]), .lo nl, .sh lvD, .sh (.int ar)] PyData.list (fun wm => (tal 1 wm).bnd fun m => tal 1 m) := by
  intro nm wm s Q Y E hnb h hy
  try dsimp only at hnb h hy
  have lto := E.P.lt
  have ltn := lt_of_at E.d
  show FRunX Y (fnF 5 6 (m_Placing_put_word (f_G14 (k + 2)))) _ _ _
  refine frun_fn rfl ?_
  unfold m_Placing_put_word
  repeat walk_at "ds"
  refine ⟨_, E.P.ob, rfl, ?_⟩
  repeat walk_at "ds"
  refine tally_ (n := 1) E.P (fun hle s1 P1 F1 => ?_) fun hgt s1 => hy (by rw [tal_tl hgt]; rfl) s1
  have hb := E.b
  have E1 : Env4 N o st W K nl kvs nm (wm + 1) s1 := ⟨P1, by omega, hle, F1.at_ E.d E.ne, E.nd, E.ne⟩
  repeat walk_at "ds"
  refine ⟨_, P1.ob, rfl, ?_⟩
  repeat walk_at "ds"
  have e0 : ((tal 1 wm).bnd fun m => tal 1 m) = tal 1 (wm + 1) := by rw [tal_le hle]; rfl
  have ef : ∀ m, rowOf (fun (_ : Unit) => tal 1) [()] m = tal 1 m := fun m => by
    show (tal 1 m).bnd _ = _
    unfold tal
    split <;> rfl
  refine row_ (N := N) (W := W) (K := K) (j := j) (kvs := kvs) (fun _ : Unit => outD) (fun _ => tal 1) [()] (by simp) (fun a _ => out_word) E1 (by rw [ef]; exact tal_nb) (fun ds m nm2 s2 g1 g2 g3 E2 F2 => ?_) fun g s2 => hy (by rw [e0, ← ef]; exact g) s2
  rw [ef] at g1
  obtain ⟨g4, rfl⟩ := tal_ok g1
  repeat walk_at "ds"
  refine h [.tuple [.str "loop", .tuple ds]] (wm + 1 + 1) nm2 _ (by rw [e0]; exact tal_le g4) (by omega) ?_ ⟨E2.P.trim lto.1 lto.2, E2.b, E2.w, (trim_get ltn).trans E2.d, E2.nd, E2.ne⟩ (F1.trans F2).trim
  rw [show wm + 1 + 1 - wm = 2 by omega]
  rw [show wm + 1 + 1 - (wm + 1) = 1 by omega] at g3
  exact CR.one (.inr (.inl ⟨ds, 1, rfl, g3, rfl⟩))
theorem ch_word {k n : Nat} (L : LvOk lvD n) (hn : n ≠ 0) : PutsW N o st W K nl kvs (j + 1) (f_G14 (k + 3) 1) [.lo o, .sh (.tuple [.str "choose", .tuple [.tuple [backD], .tuple []]]), .lo nl, .sh lvD, .sh (.int ar)] PyData.list (fun wm => (tal 1 wm).bnd fun m => match tal n m with
    | .ok i => if n = 0 then .bad else .ok i
    | _ => .bad) := by
  intro nm wm s Q Y E hnb h hy
  try dsimp only at hnb h hy
  have lto := E.P.lt
  have ltn := lt_of_at E.d
  show FRunX Y (fnF 5 6 (m_Placing_put_word (f_G14 (k + 2)))) _ _ _
  refine frun_fn rfl ?_
  unfold m_Placing_put_word
  repeat walk_at "ds"
  refine ⟨_, E.P.ob, rfl, ?_⟩
  repeat walk_at "ds"
  refine tally_ (n := 1) E.P (fun hle s1 P1 F1 => ?_) fun hgt s1 => hy (by rw [tal_tl hgt]; rfl) s1
  have hb := E.b
  have E1 : Env4 N o st W K nl kvs nm (wm + 1) s1 := ⟨P1, by omega, hle, F1.at_ E.d E.ne, E.nd, E.ne⟩
  have hle2 : wm + 1 + n ≤ 300 := by
    rcases Nat.lt_or_ge 300 (wm + 1 + n) with g | g
    · exact absurd (by rw [tal_le hle]; show (match tal n (wm + 1) with | .ok i => if n = 0 then Oc.bad else .ok i | _ => .bad) = _; rw [tal_tl g]) hnb
    · exact g
  have e0 : ((tal 1 wm).bnd fun m => match tal n m with
    | .ok i => if n = 0 then Oc.bad else .ok i
    | _ => .bad) = .ok (wm + 1 + n) := by
    rw [tal_le hle]
    show (match tal n (wm + 1) with | .ok i => if n = 0 then Oc.bad else .ok i | _ => .bad) = _
    rw [tal_le hle2]
    exact if_neg hn
  repeat walk_at "ds"
  have ef : ∀ m, rowOf (fun (_ : Unit) => tal n) [()] m = tal n m := fun m => by
    show (tal n m).bnd _ = _
    unfold tal
    split <;> rfl
  refine run_compR _ (fun r ys e s' => e = [.lo o, .sh (.tuple [.str "choose", .tuple [.tuple [backD], .tuple []]]), .lo nl, .sh lvD, .sh (.int ar), .no] ∧ ((r = [.tuple [backD], .tuple []] ∧ ys = [] ∧ s' = s1) ∨ (∃ ws nm', r = [.tuple []] ∧ ys = [.tuple ws] ∧ CR (CW j) ws n ∧ Env4 N o st W K nl kvs nm' (wm + 1 + n) s' ∧ Fr o s s') ∨ (∃ ws nm', r = [] ∧ ys = [.tuple ws, .tuple []] ∧ CR (CW j) ws n ∧ Env4 N o st W K nl kvs nm' (wm + 1 + n) s' ∧ Fr o s s'))) ⟨rfl, .inl ⟨rfl, rfl, rfl⟩⟩ (fun d r ys e s' hI => ?_) fun ys e s' hI => ?_
  · obtain ⟨rfl, ⟨e1, rfl, rfl⟩ | ⟨ws, nm', e1, rfl, g3, E2, F2⟩ | ⟨ws, nm', e1, rfl, g3, E2, F2⟩⟩ := hI
    · obtain ⟨rfl, rfl⟩ := List.cons.inj e1
      refine ⟨_, rfl, ?_⟩
      repeat walk_at "ds"
      refine ⟨_, P1.ob, rfl, ?_⟩
      repeat walk_at "ds"
      refine row_ (N := N) (W := W) (K := K) (j := j) (kvs := kvs) (fun _ : Unit => backD) (fun _ => tal n) [()] (by simp) (fun a _ => back_word L) E1 (by rw [ef]; exact tal_nb) (fun ds m nm2 s2 g1 g2 g3 E2 F2 => ?_) fun g s2 => ?_
      · rw [ef] at g1
        obtain ⟨g4, rfl⟩ := tal_ok g1
        rw [show wm + 1 + n - (wm + 1) = n by omega] at g3
        repeat walk_at "ds"
        exact ⟨rfl, .inr (.inl ⟨ds, nm2, rfl, rfl, g3, E2, F1.trans F2⟩)⟩
      · rw [ef, tal_le hle2] at g
        cases g
    · obtain ⟨rfl, rfl⟩ := List.cons.inj e1
      refine ⟨_, rfl, ?_⟩
      repeat walk_at "ds"
      refine ⟨_, E2.P.ob, rfl, ?_⟩
      repeat walk_at "ds"
      refine row_ (N := N) (W := W) (K := K) (j := j) (kvs := kvs) (fun _ : Unit => backD) (fun _ => tal n) [] (by simp) (fun a h => (nomatch h)) E2 (fun z => (nomatch z)) (fun ds m nm2 s2 g1 g2 g4 E3 F3 => ?_) fun g s2 => (nomatch g)
      obtain rfl : wm + 1 + n = m := Oc.ok.inj g1
      rw [Nat.sub_self] at g4
      have g5 := g4.len
      have g6 : ds = [] := List.eq_nil_of_length_eq_zero (by omega)
      subst g6
      repeat walk_at "ds"
      exact ⟨rfl, .inr (.inr ⟨ws, nm2, rfl, rfl, g3, E3, F2.trans F3⟩)⟩
    · cases e1
  · obtain ⟨rfl, ⟨e1, rfl, rfl⟩ | ⟨ws, nm', e1, rfl, g3, E2, F2⟩ | ⟨ws, nm', e1, rfl, g3, E2, F2⟩⟩ := hI
    · cases e1
    · cases e1
    repeat walk_at "ds"
    refine h [.tuple [.str "choose", .tuple [.tuple ws, .tuple []]]] (wm + 1 + n) nm' _ e0 (by omega) ?_ ⟨E2.P.trim lto.1 lto.2, E2.b, E2.w, (trim_get ltn).trans E2.d, E2.nd, E2.ne⟩ F2.trim
    rw [show wm + 1 + n - wm = n + 1 by omega]
    exact CR.one (.inr (.inr ⟨ws, n, rfl, g3, rfl⟩))
end
end Ds.K41
namespace Ds.K41
open PySem PySem.Spec PyProof.Rows L2 Dn TL
theorem sort_strs {ks : List Str} : ∃ l : List Str, sortD (ks.map PyData.str) = l.map PyData.str ∧ l.length = ks.length ∧ ∀ x, x ∈ l ↔ x ∈ ks := by
  refine ⟨ks.mergeSort leS, (List.map_mergeSort fun a _ b _ => ?_).symm, List.length_mergeSort _, fun x => List.mem_mergeSort⟩
  show leS a b = !PySem.W.dataLt (.str b) (.str a)
  rw [PySem.W.dataLt_str, leS_lt]
theorem sortB_strs {ks : List Str} (hl : ks.length ≤ 100) : sortB (ks.map PyData.str) = true := by
  unfold sortB
  rw [Bool.and_eq_true, Bool.and_eq_true, Bool.and_eq_true, Bool.or_eq_true]
  have st : ∀ {C : D → Prop}, (∀ x : Str, C (.str x)) → ∀ d ∈ ks.map PyData.str, C d := fun h d hd => by
    obtain ⟨x, _, rfl⟩ := List.mem_map.mp hd
    exact h x
  refine ⟨⟨⟨List.all_eq_true.mpr (st fun x => List.all_eq_true.mpr (st fun y => by simp [PySem.W.alike])), .inr (List.all_eq_true.mpr (st fun x => rfl))⟩, List.all_eq_true.mpr (st fun x => decide_eq_true ?_)⟩, decide_eq_true (by rw [List.length_map]; exact line_of (by omega))⟩
  simp [PyData.depth]
theorem LK.strs : ∀ {kvs : List (Key × Cl)}, LK kvs → ∃ xs : List Str, (kvs.map fun kv => keyD kv.1) = xs.map PyData.str ∧ xs.length = kvs.length ∧ ∀ x ∈ xs, Lo x
  | [], _ => ⟨[], rfl, rfl, fun x h => (nomatch h)⟩
  | kv :: kvs, h => by
    obtain ⟨x, h1, h2⟩ := h kv List.mem_cons_self
    obtain ⟨xs, g1, g2, g3⟩ := LK.strs (kvs := kvs) fun y hy => h y (List.mem_cons_of_mem _ hy)
    refine ⟨x :: xs, ?_, by rw [List.length_cons, List.length_cons, g2], fun y hy => ?_⟩
    · rw [List.map_cons, List.map_cons, g1, h1]
      rfl
    · rcases List.mem_cons.mp hy with rfl | hy
      · exact h2
      · exact g3 y hy
structure DfOk (N : Nat → Str) (ds : List Df) : Prop where
  nm : NmOk N
  inj : ∀ d ∈ ds, ∀ d' ∈ ds, N d.n = N d'.n → d.n = d'.n
end Ds.K41
namespace Ds.K41
open PySem PySem.Spec PyProof.Rows L2 Dn TL
section
variable {N : Nat → Str} {ds : List Df} {mn : List Wk} {s : St} {Q : Cl → St → Prop}
theorem def_of_ {f : Nat} {d : Df} (O : DfOk N ds) (hl : ds.length ≤ 10) (h : ds.find? (fun d => d.n == f) = some d) (k : Q (.sh (encDf N d)) s) : FRun f_def_of [.sh (encP N ds mn), .sh (.str (N f))] s Q := by
  have hd := List.mem_of_find?_eq_some h
  have hf : d.n = f := by
    have := List.find?_some (p := fun d : Df => d.n == f) h
    simpa using this
  refine frun_fn rfl ?_
  unfold m_def_of encP
  repeat walk_at "ds"
  refine run_forR _ (fun r e s' => s' = s ∧ ∃ (rs : List Df) (z : Cl), r = rs.map (encDf N) ∧ (∀ d ∈ rs, d ∈ ds) ∧ rs.find? (fun d => d.n == f) = some d ∧ e = [.sh (encP N ds mn), .sh (.str (N f)), z]) ⟨rfl, ds, _, rfl, fun _ h => h, h, rfl⟩ (fun d1 r e s' hI => ?_) fun e s' hI => ?_
  · obtain ⟨rfl, rs, z, e1, hs, e2, rfl⟩ := hI
    cases rs with
    | nil => cases e1
    | cons a rs =>
    obtain ⟨rfl, rfl⟩ := List.cons.inj e1
    refine ⟨_, rfl, ?_⟩
    unfold encDf
    repeat walk_at "ds"
    refine two_dec (fun h6 => ?_) (fun h6 => ?_)
    · have e3 : a.n = d.n := O.inj a (hs a List.mem_cons_self) d hd (by rw [h6, hf])
      rw [List.find?_cons_of_pos (by rw [e3, hf]; simp)] at e2
      obtain rfl := Option.some.inj e2
      repeat walk_at "ds"
      rw [trim_len rfl]
      exact k
    · repeat walk_at "ds"
      refine ⟨rfl, rs, _, rfl, fun d h => hs d (List.mem_cons_of_mem _ h), ?_, rfl⟩
      rw [List.find?_cons_of_neg (fun z => h6 (by rw [show a.n = f by simpa using z]))] at e2
      exact e2
  · obtain ⟨rfl, rs, z, e1, hs, e2, rfl⟩ := hI
    cases rs with
    | cons a rs => cases e1
    | nil => cases e2
end
end Ds.K41
namespace Ds.K41
open PySem PySem.Spec PyProof.Rows L2 Dn TL
section
variable {N : Nat → Str} {o st : Nat} {W : D} {K : List Str} {j nl : Nat} {kvs : List (Key × Cl)}
theorem call_tail {k c lv : Nat} {rw_ lvD : D} {g : Nat → Oc} {fnd : List D} (hfl : ∀ x ∈ fnd, Leaf x) (hfn : fnd.length = c) (hc : c ≤ 200) (L : LvOk lvD lv)
    (hrow : PutsW N o st W K nl kvs j (f_G14 k 0) [.lo o, .sh rw_, .lo nl, .sh lvD, .sh (.int 0)] PyData.tuple g)
    {nm wm : Nat} {s0 s : St} {Q : Cl → St → Prop} {Y : Exn → St → Prop} (P : PS o st W K nm wm s) (hb : nm ≤ 900 * wm + 900) (hd : s[nl]? = some (.dk kvs)) (hnd : ND kvs) (hne : nl ≠ o) (F0 : Fr o s0 s) (ho : o < s0.length ∧ st < s0.length)
    (hnb : ((tal (1 + c) wm).bnd fun m => (g m).bnd fun k => tal lv k) ≠ .bad)
    (h : ∀ (w : D) (m nm' : Nat) (s' : St), ((tal (1 + c) wm).bnd fun m => (g m).bnd fun k => tal lv k) = .ok m → wm ≤ m → CW (j + 1) w (m - wm) → PS o st W K nm' m s' → nm' ≤ 900 * m → m ≤ 300 → Fr o s0 s' → Q (.sh w) s')
    (hy : ((tal (1 + c) wm).bnd fun m => (g m).bnd fun k => tal lv k) = .tl → ∀ s', Y ⟨"TooLong", none⟩ s') (a1 a2 a3 a4 a6 a7 a10 a11 a12 a13 a15 a16 a17 : Cl) :
    RunX (fun y _ s' => Y y s') (mSeq
              (mExpr
                (mSh
                  (mD
                    (mMethX (Str.ofString "Placing") (Str.ofString "tally") f_Placing_tally (mLV 0)
                      [mSh (mBin dAdd (mC (PyData.int 1)) (mCallB bLen [mSh (mVar 9)]))]))))
              (mSeq
                (mSet 10
                  (mSh
                    (mD
                      (mMethX (Str.ofString "Placing") (Str.ofString "put_row") (f_G14 k 0) (mLV 0)
                        [mSh (mVar 14), mLo (mLV 5), mSh (mVar 8), mSh (mC (PyData.int 0))]))))
                (mRet
                  (mSh
                    (mTup
                      [mSh (mC (PyData.str (Str.ofString "loop"))),
                        mSh
                          (mBin dAdd (mBin dAdd (mCallB bTuple [mSh (mVar 9)]) (mVar 10))
                            (mCallB bTuple
                              [mSh
                                  (mD
                                    (mMethX (Str.ofString "Placing") (Str.ofString "put_leaving") f_Placing_put_leaving
                                      (mLV 0) [mSh (mVar 8), mSh (mC (PyData.int 0))]))]))]))))) [.lo o, a1, a2, a3, a4, .lo nl, a6, a7, .sh lvD, .sh (.list fnd), a10, a11, a12, a13, .sh rw_, a15, a16, a17] s
      fun fl e1 s1 => (fl = .nx → Q (.sh .none) (trim s0.length (.sh .none) s1)) ∧ (∀ c, fl = .rt c → Q c (trim s0.length c s1)) ∧ fl ≠ .bk ∧ fl ≠ .ct := by
  repeat walk_at "ds"
  refine ⟨_, P.ob, rfl, ?_⟩
  repeat walk_at "ds"
  have ec : (1 : Int) + (fnd.length : Int) = ((1 + c : Nat) : Int) := by omega
  rw [ec]
  refine tally_ P (fun hle s1 P1 F1 => ?_) fun hgt s1 => hy (by rw [tal_tl hgt]; rfl) s1
  have hd1 := F1.at_ hd hne
  have E1 : Env4 N o st W K nl kvs nm (wm + (1 + c)) s1 := ⟨P1, by omega, hle, hd1, hnd, hne⟩
  have e0 : ((tal (1 + c) wm).bnd fun m => (g m).bnd fun k => tal lv k) = (g (wm + (1 + c))).bnd fun k => tal lv k := by rw [tal_le hle]; rfl
  rw [e0] at hnb h hy
  repeat walk_at "ds"
  refine ⟨_, P1.ob, rfl, ?_⟩
  repeat walk_at "ds"
  refine hrow E1 (fun z => hnb (by rw [z]; rfl)) (fun ds m nm2 s2 g1 g2 g3 E2 F2 => ?_) fun z s2 => hy (by rw [z]; rfl) s2
  have e1 : ((g (wm + (1 + c))).bnd fun k => tal lv k) = tal lv m := by rw [g1]; rfl
  rw [e1] at hnb h hy
  have dl := g3.len
  have w2 := E2.w
  have b2 := E2.b
  repeat walk_at "ds"
  refine bx_add_tup (line_of (by omega)) ?_
  repeat walk_at "ds"
  refine ⟨_, E2.P.ob, rfl, ?_⟩
  repeat walk_at "ds"
  refine put_leaving_ E2.P L (fun hle2 ls s3 hL hn P3 F3 => ?_) fun hgt s3 => hy (tal_tl hgt) s3
  repeat walk_at "ds"
  refine bx_add_tup (line_of (by rw [List.length_append]; omega)) ?_
  repeat walk_at "ds"
  refine h (.tuple [.str "loop", .tuple (fnd ++ ds ++ ls)]) (m + lv) nm2 _ (tal_le hle2) (by omega) ?_ (P3.trim ho.1 ho.2) (by omega) hle2 (((F0.trans F1).trans F2).trans F3).trim
  refine .inr (.inl ⟨_, c + (m - (wm + (1 + c))) + lv, rfl, ?_, by omega⟩)
  refine ((?_ : CR (CW j) fnd c).app g3).app (?_ : CR (CW j) ls lv)
  · rw [← hfn]
    exact CR.leaves hfl
  · rw [← hn]
    exact CR.leaves hL
end
end Ds.K41
namespace Ds.K41
open PySem PySem.Spec PyProof.Rows L2 Dn TL
def NDm (kvs : List (Key × Cl)) : Prop := ∀ kv ∈ kvs, ∃ y : Str, kv.2 = .sh (.str y) ∧ Ok 20 y
theorem NDm.nd {kvs : List (Key × Cl)} (h : NDm kvs) : ND kvs := fun k c hk => h _ (valC_mem hk)
theorem NDm.put {kvs : List (Key × Cl)} {k : Key} {y : Str} (h : NDm kvs) (hy : Ok 20 y) : NDm (putC kvs k (.sh (.str y))) := fun kv hk => by
  rcases putC_mem hk with ⟨_, h2⟩ | h1
  · exact ⟨y, h2, hy⟩
  · exact h kv h1
theorem ft (l : List D) : l.filter (fun _ => true) = l := List.filter_eq_self.mpr (by simp)
theorem zip_mem : ∀ {xs ys : List Str} {d : D}, d ∈ zipD (xs.map PyData.str) (ys.map PyData.str) → ∃ a b : Str, d = .tuple [.str a, .str b]
  | [], _, _, h => by cases h
  | x :: xs, [], _, h => by cases h
  | x :: xs, y :: ys, d, h => by
    rcases List.mem_cons.mp (show d ∈ .tuple [.str x, .str y] :: zipD (xs.map PyData.str) (ys.map PyData.str) from h) with rfl | h
    · exact ⟨x, y, rfl⟩
    · exact zip_mem h
theorem zip_len {xs ys : List Str} (h : xs.length = ys.length) : (zipD (xs.map PyData.str) (ys.map PyData.str)).length = ys.length := by
  unfold zipD
  rw [List.length_zipWith, List.length_map, List.length_map, h, Nat.min_self]
def cpz : D → D
  | .tuple [a, b] => .tuple [.str "copy", a, b]
  | d => d
def wpz (d : D) : D := .tuple [.str "wipe", d]
theorem leaf_cpz {p : D} (h : ∃ a b : Str, p = .tuple [.str a, .str b]) : Leaf (cpz p) := by
  obtain ⟨a, b, rfl⟩ := h
  exact ⟨_, _, rfl, by decide, by decide⟩
theorem leaf_wpz {p : D} : Leaf (wpz p) := ⟨_, _, rfl, by decide, by decide⟩
theorem oth_ {N : Nat → Str} {d : Df} {b : Bool} {B : List Str} (h : othD d = some b) (hB : ∀ x, x ∈ B ↔ ∃ i ∈ bxD d, N i = x) : (if (B.filter fun x => !(tx N d.rs).contains x) = [] then 0 else 1) = (if b = true then 1 else 0) := by
  unfold othD at h
  split at h
  · rename_i h1
    obtain rfl := Option.some.inj h
    have : (B.filter fun x => !(tx N d.rs).contains x) = [] := by
      refine List.filter_eq_nil_iff.mpr fun x hx => ?_
      obtain ⟨i, hi, rfl⟩ := (hB x).mp hx
      have h2 := List.all_eq_true.mp h1 i hi
      have h3 : N i ∈ tx N d.rs := List.mem_map.mpr ⟨i, by simpa using h2, rfl⟩
      simp [h3]
    rw [if_pos this]
    rfl
  · rename_i h1
    split at h
    · rename_i h2
      obtain rfl := Option.some.inj h
      have h3 : d.rs = [] := by simpa using h2
      have : (B.filter fun x => !(tx N d.rs).contains x) ≠ [] := fun z => by
        refine h1 (List.all_eq_true.mpr fun i hi => ?_)
        have h4 : N i ∈ B := (hB _).mpr ⟨i, hi, rfl⟩
        have h5 := List.filter_eq_nil_iff.mp z (N i) h4
        rw [h3] at h5
        exact absurd rfl h5
      rw [if_neg this]
      rfl
    · cases h
end Ds.K41
namespace Ds.K41
open PySem PySem.Spec PyProof.Rows L2 Dn TL
section
variable {N : Nat → Str} {ds : List Df} {mn : List Wk} {o st : Nat} {W : D} {K : List Str} {j : Nat}
theorem tx_len {l : List Nat} : (tx N l).length = l.length := by unfold tx; rw [List.length_map]
theorem put_call_ {k n f : Nat} {as gs : List Str} {d : Df} {b : Bool} (O : DfOk N ds) (hds : ds.length ≤ 10) (hf : ds.find? (fun d => d.n == f) = some d) (ho : othD d = some b) (hla : as.length = d.ps.length) (hlg : gs.length = d.rs.length) (hlr : d.row.length ≤ 16) (hbx : (bxD d).length ≤ 32) (hK : K.length ≤ 13) (hW : W = encP N ds mn)
    (hrow : ∀ {nl' : Nat} {kvs' : List (Key × Cl)} {lvD' : D}, LvOk lvD' (lvOf d b) → PutsW N o st W K nl' kvs' j (f_G14 k 0) [.lo o, .sh (encR N d.row), .lo nl', .sh lvD', .sh (.int 0)] PyData.tuple (rowOc (wOc ds n (lvOf d b)) d.row))
    {nm wm : Nat} {s : St} {Q : Cl → St → Prop} {Y : Exn → St → Prop} (P : PS o st W K nm wm s) (hb : nm ≤ 900 * wm) (hw : wm ≤ 300)
    (hnb : ((tal (1 + 2 * as.length) wm).bnd fun m => (rowOc (wOc ds n (lvOf d b)) d.row m).bnd fun k => tal (lvOf d b) k) ≠ .bad)
    (h : ∀ (w : D) (m nm' : Nat) (s' : St), ((tal (1 + 2 * as.length) wm).bnd fun m => (rowOc (wOc ds n (lvOf d b)) d.row m).bnd fun k => tal (lvOf d b) k) = .ok m → wm ≤ m → CW (j + 1) w (m - wm) → PS o st W K nm' m s' → nm' ≤ 900 * m → m ≤ 300 → Fr o s s' → Q (.sh w) s')
    (hy : ((tal (1 + 2 * as.length) wm).bnd fun m => (rowOc (wOc ds n (lvOf d b)) d.row m).bnd fun k => tal (lvOf d b) k) = .tl → ∀ s', Y ⟨"TooLong", none⟩ s') :
    FRunX Y (f_G14 (k + 1) 2) [.lo o, .sh (.str (N f)), .sh (.tuple (as.map PyData.str)), .sh (.tuple (gs.map PyData.str))] s Q := by
  have hN := O.nm
  have lto := P.lt
  have lb : (bxR d.row).length + d.ps.length + d.rs.length ≤ 32 := by
    unfold bxD at hbx
    rw [List.length_append, List.length_append] at hbx
    exact hbx
  show FRunX Y (fnF 4 18 (m_Placing_put_call (f_G14 k))) _ _ _
  refine frun_fn rfl ?_
  unfold m_Placing_put_call mTupZip
  repeat walk_at "ds"
  refine ⟨_, _, P.ob, rfl, ?_⟩
  repeat walk_at "ds"
  subst hW
  refine def_of_ O hds hf ?_
  unfold encDf
  repeat walk_at "ds"
  refine boxes_in_ (j := 12) (by omega) fun s1 F1 => ?_
  have sl := srt_len (L := tx N (bxR d.row))
  rw [tx_len] at sl
  repeat walk_at "ds"
  unfold sts
  refine bx_add_tup (line_of (by simp only [List.length_map, tx_len]; omega)) ?_
  repeat walk_at "ds"
  refine bx_add_tup (line_of (by simp only [List.length_append, List.length_map, tx_len]; omega)) ?_
  repeat walk_at "ds"
  rw [← List.map_append, ← List.map_append]
  generalize hT : srt (tx N (bxR d.row)) ++ tx N d.ps ++ tx N d.rs = T
  have hTm : ∀ x, x ∈ T ↔ ∃ i ∈ bxD d, N i = x := fun x => by
    rw [← hT, List.mem_append, List.mem_append, srt_mem]
    unfold bxD tx
    rw [List.mem_map, List.mem_map, List.mem_map]
    simp only [List.mem_append]
    constructor
    · rintro ((⟨i, h1, h2⟩ | ⟨i, h1, h2⟩) | ⟨i, h1, h2⟩)
      · exact ⟨i, .inl (.inl h1), h2⟩
      · exact ⟨i, .inl (.inr h1), h2⟩
      · exact ⟨i, .inr h1, h2⟩
    · rintro ⟨i, (h1 | h1) | h1, h2⟩
      · exact .inl (.inl ⟨i, h1, h2⟩)
      · exact .inl (.inr ⟨i, h1, h2⟩)
      · exact .inr ⟨i, h1, h2⟩
  have hTl : T.length ≤ 32 := by
    rw [← hT, List.length_append, List.length_append, tx_len, tx_len]
    omega
  refine ⟨_, _, _, rfl, rfl, toSs_map _, by show T.length + 1 < 4096; omega, ?_⟩
  repeat walk_at "ds"
  generalize hB : sortT (metT T) = B
  have hBm : ∀ x, x ∈ B ↔ ∃ i ∈ bxD d, N i = x := fun x => by
    rw [← hTm, ← hB]
    exact srt_mem (L := T)
  have hBl : B.length ≤ 32 := by
    rw [← hB]
    exact Nat.le_trans (srt_len (L := T)) hTl
  have hBo : ∀ x ∈ B, Lo x := fun x hx => by
    obtain ⟨i, _, rfl⟩ := (hBm x).mp hx
    exact hN i
  clear hT hB hTm hTl
  refine names_in_ (j := 12) hN (by omega) fun l2 s2 kvs2 hl2 at2 hk2 hkl F2 => ?_
  obtain ⟨xs, hx1, hx2, hx3⟩ := hk2.strs
  have F12 : Fz s s2 := (F1.trans Fz.app).trans F2
  have lt2 : s1.length < s2.length := by have := F2.1; simp at this; omega
  have at5 : s2[s1.length]? = some (.dk []) := F2.at_ app_new
  have ls1 : s.length ≤ s1.length := F1.1
  repeat walk_at "ds"
  refine ⟨_, at2, ?_⟩
  rw [hx1]
  refine ⟨_, shL_map _, ?_⟩
  repeat walk_at "ds"
  refine ⟨line_of (by rw [List.length_map]; omega), ?_⟩
  refine run_compF (B.map PyData.str) (fun _ => true) (fun d => d) (fun s' => s' = s2) rfl (fun d1 hd s3 hs => ?_) fun s3 hs => ?_
  · obtain ⟨x, hx, rfl⟩ := List.mem_map.mp hd
    have hxo := hBo x hx
    have := hxo.1.1
    subst hs
    refine ⟨_, rfl, run_yes ⟨rfl, fun _ => ?_, fun z => (nomatch z)⟩⟩
    repeat walk_at "ds"
    refine first_name_ (by omega) (only_part hxo) ?_
    repeat walk_at "ds"
    exact ⟨rfl, rfl, rfl⟩
  subst hs
  rw [ft, List.map_id']
  repeat walk_at "ds"
  refine ⟨_, shL_map _, ?_⟩
  repeat walk_at "ds"
  refine bx_add_lst (line_of (by rw [List.length_map, List.length_map]; omega)) ?_
  repeat walk_at "ds"
  rw [← List.map_append]
  have hxl : (xs ++ B).length ≤ 64 := by rw [List.length_append]; omega
  refine ⟨sortB_strs (by omega), ?_⟩
  obtain ⟨l, hs1, hs2, hs3⟩ := sort_strs (ks := xs ++ B)
  rw [hs1]
  have hll : l.length ≤ 64 := by rw [hs2, List.length_append]; omega
  repeat walk_at "ds"
  refine run_forL _ (fun i e s' => ∃ (nm' : Nat) (kvs' : List (Key × Cl)) (z6 : Cl), PS o st (encP N ds mn) K nm' wm s' ∧ nm' ≤ nm + 14 * i ∧ s'[s1.length]? = some (.dk kvs') ∧ NDm kvs' ∧ kvs'.length ≤ i ∧ Fr o s s' ∧ e = [.lo o, .sh (.str (N f)), .sh (.tuple (as.map PyData.str)), .sh (.tuple (gs.map PyData.str)), .sh (.tuple (B.map PyData.str)), .lo s1.length, z6, .no, .no, .no, .no, .sh (.str (N d.n)), .sh (.tuple ((tx N d.ps).map PyData.str)), .sh (.tuple ((tx N d.rs).map PyData.str)), .sh (encR N d.row), .no, .no, .no]) ⟨nm, [], _, P.fz F12, Nat.le_refl _, at5, fun kv h => (nomatch h), Nat.le_refl _, fz_fr F12 o, rfl⟩ (fun i d1 e s' hd hI => ?_) fun e s' hI => ?_
  · obtain ⟨nm', kvs', z6, P', hn', at6, hnd, hkl', F', rfl⟩ := hI
    have hi := (List.getElem?_eq_some_iff.mp hd).1
    rw [List.length_map] at hi
    obtain ⟨x, hx, rfl⟩ := List.mem_map.mp (List.mem_of_getElem? hd)
    refine ⟨_, rfl, ?_⟩
    repeat walk_at "ds"
    refine ⟨_, _, at6, rfl, ?_⟩
    repeat walk_at "ds"
    by_cases hv : (valC kvs' (.inr x)).isSome = true
    · rw [hv]
      repeat walk_at "ds"
      exact ⟨nm', kvs', _, P', by omega, at6, hnd, by omega, F', rfl⟩
    · rw [Bool.not_eq_true] at hv
      rw [hv]
      repeat walk_at "ds"
      refine ⟨_, P'.ob, rfl, ?_⟩
      repeat walk_at "ds"
      refine fresh_name_ P' (by omega) fun y nm2 s4 hyo hn2 P4 F4 => ?_
      have at7 := F4.at_ at6 (by omega)
      repeat walk_at "ds"
      refine ⟨_, _, at7, rfl, line_of (by omega), ?_⟩
      refine turn_nx ?_
      exact ⟨nm2, _, _, P4.of (set_other (by omega)) (set_other (by omega)), by omega, set_same (lt_of_at at7), hnd.put (hyo.mono (by decide)), Nat.le_trans putC_len (by omega), (F'.trans F4).put ls1, rfl⟩
  obtain ⟨nm', kvs', z6, P', hn', at6, hnd, hkl', F', rfl⟩ := hI
  rw [List.length_map] at hn' hkl'
  refine seq_nx ?_
  clear hkl' hs1 hs2 hs3 hx1 hx2 hx3 hk2 at2 at5 F2 F12
  repeat walk_at "ds"
  refine ⟨line_of (by rw [List.length_map]; omega), ?_⟩
  refine run_compF (B.map PyData.str) (fun d1 => !(strP (fun x => (tx N d.rs).contains x) d1)) (fun d => d) (fun s2 => s2 = s') rfl (fun d1 hd s3 hs => ?_) fun s3 hs => ?_
  · obtain ⟨x, hx, rfl⟩ := List.mem_map.mp hd
    subst hs
    refine ⟨_, rfl, ?_⟩
    repeat walk_at "ds"
    refine bx_nin_tup rfl (flat_strs _) ?_
    rw [inD_strs]
    refine ⟨_, rfl, ?_⟩
    refine ⟨rfl, fun _ => ?_, fun _ => ⟨rfl, rfl⟩⟩
    repeat walk_at "ds"
    exact ⟨rfl, rfl, rfl⟩
  subst hs
  rw [List.map_id']
  have hfil : (B.map PyData.str).filter (fun d1 => !(strP (fun x => (tx N d.rs).contains x) d1)) = (B.filter fun x => !(tx N d.rs).contains x).map PyData.str := by
    rw [List.filter_map]
    rfl
  rw [hfil]
  generalize hO : (B.filter fun x => !(tx N d.rs).contains x) = O1
  have hOs : ∀ x ∈ O1, x ∈ B := fun x hx => by rw [← hO] at hx; exact (List.mem_filter.mp hx).1
  have hOl : O1.length ≤ 32 := by rw [← hO]; exact Nat.le_trans (List.length_filter_le _ _) hBl
  repeat walk_at "ds"
  refine ⟨_, shL_map _, ?_⟩
  repeat walk_at "ds"
  refine renamed_ at6 hnd.nd (fun x hx => hBo x (hOs x hx)) (by omega) fun ys1 s4 hy1 ho1 F4 => ?_
  repeat walk_at "ds"
  refine ⟨sortB_strs (by omega), ?_⟩
  obtain ⟨l1, hl1, hl2', hl3⟩ := sort_strs (ks := ys1)
  rw [hl1]
  have at7 := F4.at_ at6
  repeat walk_at "ds"
  refine renamed_ (xs := tx N d.rs) at7 hnd.nd (fun x hx => tx_lo hN hx) (by rw [tx_len]; omega) fun ys2 s5 hy2 ho2 F5 => ?_
  have at8 := F5.at_ at7
  repeat walk_at "ds"
  refine ⟨_, if_pos (by rw [List.length_map, List.length_map, hy2, tx_len, hlg]), ?_⟩
  repeat walk_at "ds"
  refine renamed_ (xs := tx N d.ps) at8 hnd.nd (fun x hx => tx_lo hN hx) (by rw [tx_len]; omega) fun ys3 s6 hy3 ho3 F6 => ?_
  have at9 := F6.at_ at8
  have zl : (zipD (ys3.map PyData.str) (as.map PyData.str)).length = as.length := zip_len (by rw [hy3, tx_len, hla])
  repeat walk_at "ds"
  refine ⟨_, _, rfl, rfl, ?_⟩
  repeat walk_at "ds"
  refine ⟨line_of ?_, ?_⟩
  · refine Nat.le_trans (Nat.le_of_eq zl) (by omega)
  refine run_compF _ (fun _ => true) cpz (fun s7 => s7 = s6) rfl (fun d1 hd s7 hs => ?_) fun s7 hs => ?_
  · obtain ⟨a, b, rfl⟩ := zip_mem hd
    subst hs
    refine ⟨_, rfl, run_yes ⟨rfl, fun _ => ?_, fun z => (nomatch z)⟩⟩
    repeat walk_at "ds"
    exact ⟨rfl, rfl, rfl⟩
  subst hs
  rw [ft]
  repeat walk_at "ds"
  refine ⟨_, shL_map _, ?_⟩
  repeat walk_at "ds"
  refine ⟨line_of (by rw [List.length_map]; omega), ?_⟩
  refine run_compF _ (fun _ => true) wpz (fun s8 => s8 = s7) rfl (fun d1 hd s8 hs => ?_) fun s8 hs => ?_
  · obtain ⟨a, ha, rfl⟩ := List.mem_map.mp hd
    subst hs
    refine ⟨_, rfl, run_yes ⟨rfl, fun _ => ?_, fun z => (nomatch z)⟩⟩
    repeat walk_at "ds"
    exact ⟨rfl, rfl, rfl⟩
  subst hs
  rw [ft]
  repeat walk_at "ds"
  refine ⟨_, shL_map _, ?_⟩
  repeat walk_at "ds"
  refine bx_add_lst (line_of ?_) ?_
  · rw [List.length_map, List.length_map, List.length_map, zl]
    omega
  have L : LvOk (.tuple [.tuple (zipD (ys2.map PyData.str) (gs.map PyData.str)), .tuple (l1.map PyData.str)]) (lvOf d b) := by
    have e1 : (zipD (ys2.map PyData.str) (gs.map PyData.str)).length = d.rs.length := by rw [zip_len (by rw [hy2, tx_len, hlg]), hlg]
    refine ⟨_, _, rfl, fun p hp => zip_mem hp, by rw [e1]; omega, fun x hx => ?_, ?_⟩
    · obtain ⟨y, hy', rfl⟩ := List.mem_map.mp hx
      exact Sh.str (ho1 y ((hl3 y).mp hy'))
    · rw [e1]
      have e2 := oth_ (N := N) ho hBm
      rw [hO] at e2
      have e3 : (if l1.map PyData.str = [] then 0 else 1) = (if O1 = [] then 0 else 1) := by
        have : (l1.map PyData.str = []) ↔ O1 = [] := by
          rw [← List.length_eq_zero_iff, ← List.length_eq_zero_iff, List.length_map, hl2', hy1]
        by_cases z : O1 = []
        · rw [if_pos z, if_pos (this.mpr z)]
        · rw [if_neg z, if_neg fun q => z (this.mp q)]
      rw [e3, e2]
      rfl
  refine seq_nx ?_
  have Fx := (F4.trans F5).trans F6
  exact call_tail (W := encP N ds mn) (K := K) (j := j) (kvs := kvs') (c := 2 * as.length) (g := rowOc (wOc ds n (lvOf d b)) d.row) (fun x hx => by
      rcases List.mem_append.mp hx with h | h <;> obtain ⟨p, hp, rfl⟩ := List.mem_map.mp h
      · exact leaf_cpz (zip_mem hp)
      · exact leaf_wpz) (by rw [List.length_append, List.length_map, List.length_map, List.length_map, zl]; omega) (by omega) L (hrow L) (P'.fz Fx) (by omega) at9 hnd.nd (by omega) (F'.trans (fz_fr Fx o)) lto hnb h hy _ _ _ _ _ _ _ _ _ _ _ _ _
end
end Ds.K41
namespace Ds.K41
open PySem PySem.Spec PyProof.Rows L2 Dn TL
section
variable {N : Nat → Str} {ds : List Df} {mn : List Wk} {o st : Nat} {W : D} {K : List Str}
theorem call_word {k n j f lv : Nat} {as gs : List Nat} {nl : Nat} {kvs : List (Key × Cl)} {lvD : D} {ar : Int} (O : DfOk N ds) (hds : ds.length ≤ 10) (hK : K.length ≤ 13) (hW : W = encP N ds mn) (hg1 : as.length ≤ 100) (hg2 : gs.length ≤ 100)
    (hrow : ∀ {d : Df} {lv' : Nat} {nl' : Nat} {kvs' : List (Key × Cl)} {lvD' : D}, d ∈ ds → d.row.length ≤ 16 → lv' ≠ 0 → LvOk lvD' lv' → PutsW N o st W K nl' kvs' j (f_G14 k 0) [.lo o, .sh (encR N d.row), .lo nl', .sh lvD', .sh (.int 0)] PyData.tuple (rowOc (wOc ds n lv') d.row)) :
    PutsW N o st W K nl kvs (j + 1) (f_G14 (k + 2) 1) [.lo o, .sh (encW N (.call f as gs)), .lo nl, .sh lvD, .sh (.int ar)] PyData.list (wOc ds (n + 1) lv (.call f as gs)) := by
  intro nm wm s Q Y E hnb h hy
  have lto := E.P.lt
  have ltn := lt_of_at E.d
  unfold wOc at hnb h hy
  cases hf : ds.find? (fun d => d.n == f) with
  | none => rw [hf] at hnb; exact absurd rfl hnb
  | some d =>
  rw [hf] at hnb h hy
  dsimp only at hnb h hy
  cases ho : othD d with
  | none => rw [ho] at hnb; exact absurd rfl hnb
  | some b =>
  rw [ho] at hnb h hy
  dsimp only at hnb h hy
  by_cases hc : as.length = d.ps.length ∧ gs.length = d.rs.length ∧ d.row.length ≤ 16 ∧ (bxD d).length ≤ 32
  case neg => rw [if_neg hc] at hnb; exact absurd rfl hnb
  rw [if_pos hc] at hnb h hy
  obtain ⟨c1, c2, c3, c4⟩ := hc
  show FRunX Y (fnF 5 6 (m_Placing_put_word (f_G14 (k + 1)))) _ _ _
  refine frun_fn rfl ?_
  unfold m_Placing_put_word encW sts
  repeat walk_at "ds"
  refine ⟨_, E.P.ob, rfl, ?_⟩
  repeat walk_at "ds"
  refine renamed_ (xs := tx N as) E.d E.nd (fun x hx => tx_lo O.nm hx) (by rw [tx_len]; omega) fun ys1 s1 hy1 ho1 F1 => ?_
  repeat walk_at "ds"
  refine renamed_ (xs := tx N gs) (F1.at_ E.d) E.nd (fun x hx => tx_lo O.nm hx) (by rw [tx_len]; omega) fun ys2 s2 hy2 ho2 F2 => ?_
  rw [tx_len] at hy1 hy2
  have F12 := F1.trans F2
  repeat walk_at "ds"
  rw [← hy1] at hnb h hy
  refine put_call_ O hds hf ho (by rw [hy1, c1]) (by rw [hy2, c2]) c3 c4 hK hW (fun {_ _ _} L => hrow (List.mem_of_find?_eq_some hf) c3 (by unfold lvOf; omega) L) (E.P.fz F12) E.b E.w hnb (fun w m nm' s' g1 g2 g3 P' hb' hm' F' => ?_) hy
  repeat walk_at "ds"
  exact h [w] m nm' _ g1 g2 (CR.one g3) ⟨P'.trim lto.1 lto.2, hb', hm', (trim_get ltn).trans (((fz_fr F12 o).trans F').at_ E.d E.ne), E.nd, E.ne⟩ ((fz_fr F12 o).trans F').trim
def sml : Wk → Prop
  | .call _ as gs => as.length ≤ 100 ∧ gs.length ≤ 100
  | _ => True
theorem words_ (O : DfOk N ds) (hds : ds.length ≤ 10) (hK : K.length ≤ 13) (hW : W = encP N ds mn) (hsm : ∀ d ∈ ds, ∀ w ∈ d.row, sml w) : ∀ (n k : Nat), 3 * n + 3 ≤ k → ∀ {w : Wk} {lv nl : Nat} {kvs : List (Key × Cl)} {lvD : D} {ar : Int}, sml w → ((lvD = .none ∧ lv = 0 ∧ w ≠ .ch) ∨ (LvOk lvD lv ∧ lv ≠ 0)) →
    PutsW N o st W K nl kvs (n + 1) (f_G14 k 1) [.lo o, .sh (encW N w), .lo nl, .sh lvD, .sh (.int ar)] PyData.list (wOc ds n lv w) := fun n => by
  induction n with
  | zero =>
    intro k hk w lv nl kvs lvD ar hw hL
    obtain ⟨k, rfl⟩ : ∃ i, k = i + 3 := ⟨k - 3, by omega⟩
    cases w with
    | tell x => exact tell_word O.nm
    | wipe x => exact wipe_word O.nm
    | out => exact out_word
    | lp => exact lp_word
    | ch =>
      rcases hL with ⟨_, _, h0⟩ | ⟨L, h0⟩
      · exact absurd rfl h0
      · exact ch_word L h0
    | call f as gs =>
      intro nm wm s Q Y E hnb h hy
      exact absurd rfl hnb
  | succ n ih =>
    intro k hk w lv nl kvs lvD ar hw hL
    obtain ⟨k, rfl⟩ : ∃ i, k = i + 3 := ⟨k - 3, by omega⟩
    cases w with
    | tell x => exact tell_word O.nm
    | wipe x => exact wipe_word O.nm
    | out => exact out_word
    | lp => exact lp_word
    | ch =>
      rcases hL with ⟨_, _, h0⟩ | ⟨L, h0⟩
      · exact absurd rfl h0
      · exact ch_word L h0
    | call f as gs =>
      refine call_word (k := k + 1) O hds hK hW hw.1 hw.2 (fun {d lv' nl' kvs' lvD'} hd hl h0 L => ?_)
      rw [← show rowOf (wOc ds n lv') d.row = rowOc (wOc ds n lv') d.row from funext fun wm => rowOf_wk _ _ wm]
      exact row_ (encW N) (wOc ds n lv') d.row (by omega) fun w hw' => ih k (by omega) (hsm d hd w hw') (.inr ⟨L, h0⟩)
/-- a main row put in place -/
theorem main_row (O : DfOk N ds) (hds : ds.length ≤ 10) (hK : K.length ≤ 13) (hW : W = encP N ds mn) (hsm : ∀ d ∈ ds, ∀ w ∈ d.row, sml w) (hmn : ∀ w ∈ mn, sml w ∧ w ≠ .ch) (hl : mn.length ≤ 1000) {nl : Nat} {kvs : List (Key × Cl)} {ar : Int} :
    PutsW N o st W K nl kvs 4 (f_G14 14 0) [.lo o, .sh (encR N mn), .lo nl, .sh .none, .sh (.int ar)] PyData.tuple (rowOc (wOc ds 3 0) mn) := by
  rw [← show rowOf (wOc ds 3 0) mn = rowOc (wOc ds 3 0) mn from funext fun wm => rowOf_wk _ _ wm]
  exact row_ (encW N) (wOc ds 3 0) mn hl fun w hw => words_ O hds hK hW hsm 3 13 (by omega) (hmn w hw).1 (.inl ⟨rfl, rfl, (hmn w hw).2⟩)
end
end Ds.K41
namespace Ds.K41
open PySem PySem.Spec PyProof.Rows L2 Dn TL
theorem leaf_not {d : D} (h : Leaf d) : ∃ (w : Str) (r : List D), d = .tuple (.str w :: r) ∧ decide (w = ("loop" : Str)) = false ∧ decide (w = ("choose" : Str)) = false := by
  obtain ⟨w, r, rfl, h1, h2⟩ := h
  exact ⟨w, r, rfl, decide_eq_false h1, decide_eq_false h2⟩
end Ds.K41
namespace Ds.K41
open PySem PySem.Spec PyProof.Rows L2 Dn TL
section
variable {s : St} {Q : Cl → St → Prop}
theorem counted_ : ∀ (F j : Nat), j + 1 ≤ F → ∀ {ws : List D} {n : Nat} {s : St} {Q : Cl → St → Prop}, CR (CW j) ws n → n ≤ 400 → (∀ s', Fz s s' → Q (.sh (.int (n : Int))) s') → FRun (f_G19 F 0) [.sh (.tuple ws)] s Q := fun F => by
  induction F with
  | zero => exact fun j h => absurd h (by omega)
  | succ F ih =>
    intro j hj ws n s Q hc hn k
    show FRun (fnF 1 4 (m__law_counted (f_G19 F))) _ _ _
    refine frun_fn rfl ?_
    unfold m__law_counted
    repeat walk_at "ds"
    refine run_forR _ (fun r e s' => ∃ (a b : Nat) (z2 z3 : Cl), CR (CW j) r b ∧ (a + b = n + r.length ∧ r.length ≤ a) ∧ Fz s s' ∧ e = [.sh (.tuple ws), .sh (.int (a : Int)), z2, z3]) ⟨ws.length, n, _, _, hc, ⟨by omega, Nat.le_refl _⟩, Fz.refl _, rfl⟩ (fun d r e s' hI => ?_) fun e s' hI => ?_
    · obtain ⟨a, b, z2, z3, h1, h2, F1, rfl⟩ := hI
      obtain ⟨p, q, g1, g2, g3⟩ := h1
      refine ⟨_, rfl, ?_⟩
      rw [List.length_cons] at h2
      obtain ⟨h2, h2'⟩ := h2
      have leafC : Leaf d → p = 1 → RunX (fun y _ s' => NoF y s') ((mSeq (mIfS (mTest (mBin dEq (mBin dIx (mVar 2) (mC (PyData.int 0))) (mC (PyData.str "loop")))) (mSet 1 (mSh (mBin dAdd (mVar 1) (mD (mCall (f_G19 F 0) [(mSh (mBin dIx (mVar 2) (mC (PyData.int 1))))]))))) mNx)
  (mIfS (mTest (mBin dEq (mBin dIx (mVar 2) (mC (PyData.int 0))) (mC (PyData.str "choose")))) (mSet 1 (mSh (mBin dAdd (mVar 1) (mCallB bSum [(mSh (mFr (mComp (mIter (mBin dIx (mVar 2) (mC (PyData.int 1)))) [3] (mgName 3) mYes (mD (mCall (f_G19 F 0) [(mSh (mVar 3))])))))])))) mNx))) [.sh (.tuple ws), .sh (.int (a : Int)), .sh d, z3] s' fun fl e2 s2 => fl = .nx ∧ s2 = s' ∧ e2 = [.sh (.tuple ws), .sh (.int (a : Int)), .sh d, z3] := fun hl hp => by
        obtain ⟨w, r, rfl, e1, e2⟩ := leaf_not hl
        repeat walk_at "ds"
        refine bx_ix_tup (d := .str w) (at0 _ _) ?_
        repeat walk_at "ds"
        rw [e1]
        repeat walk_at "ds"
        refine bx_ix_tup (d := .str w) (at0 _ _) ?_
        repeat walk_at "ds"
        rw [e2]
        repeat walk_at "ds"
        exact ⟨rfl, rfl, rfl⟩
      cases j with
      | zero =>
        have hp := g1.2
        refine RunX.mono (leafC g1.1 g1.2) ?_
        rintro fl e2 s2 ⟨k1, k2, k3⟩
        exact ⟨fun _ => ⟨a, q, .sh d, z3, g2, ⟨by omega, by omega⟩, by rw [k2]; exact F1, k3⟩, fun z => absurd (k1.symm.trans z) (by simp), fun c z => absurd (k1.symm.trans z) (by simp)⟩
      | succ j =>
      rcases g1 with ⟨hl, hp⟩ | ⟨ws2, m, rfl, hc2, hp⟩ | ⟨ws2, m, rfl, hc2, hp⟩
      · refine RunX.mono (leafC hl hp) ?_
        rintro fl e2 s2 ⟨k1, k2, k3⟩
        exact ⟨fun _ => ⟨a, q, .sh d, z3, g2, ⟨by omega, by omega⟩, by rw [k2]; exact F1, k3⟩, fun z => absurd (k1.symm.trans z) (by simp), fun c z => absurd (k1.symm.trans z) (by simp)⟩
      · repeat walk_at "ds"
        refine ih j (by omega) hc2 (by omega) fun s2 F2 => ?_
        repeat walk_at "ds"
        exact ⟨a + m, q, _, _, g2, ⟨by omega, by omega⟩, F1.trans F2, rfl⟩
      · repeat walk_at "ds"
        refine run_compR _ (fun r ys e s2 => e = [.sh (.tuple ws), .sh (.int (a : Int)), .sh (.tuple [.str "choose", .tuple [.tuple ws2, .tuple []]]), .no] ∧ Fz s' s2 ∧ ((r = [.tuple ws2, .tuple []] ∧ ys = []) ∨ (r = [.tuple []] ∧ ys = [.int (m : Int)]) ∨ (r = [] ∧ ys = [.int (m : Int), .int 0]))) ⟨rfl, Fz.refl _, .inl ⟨rfl, rfl⟩⟩ (fun d1 r1 ys e s2 hJ => ?_) fun ys e s2 hJ => ?_
        · obtain ⟨rfl, F2, ⟨e1, rfl⟩ | ⟨e1, rfl⟩ | ⟨e1, rfl⟩⟩ := hJ
          · obtain ⟨rfl, rfl⟩ := List.cons.inj e1
            refine ⟨_, rfl, ?_⟩
            repeat walk_at "ds"
            refine ih j (by omega) hc2 (by omega) fun s3 F3 => ?_
            repeat walk_at "ds"
            exact ⟨rfl, F2.trans F3, .inr (.inl ⟨rfl, rfl⟩)⟩
          · obtain ⟨rfl, rfl⟩ := List.cons.inj e1
            refine ⟨_, rfl, ?_⟩
            repeat walk_at "ds"
            refine ih j (by omega) (ws := []) (n := 0) rfl (by omega) fun s3 F3 => ?_
            repeat walk_at "ds"
            exact ⟨rfl, F2.trans F3, .inr (.inr ⟨rfl, rfl⟩)⟩
          · cases e1
        · obtain ⟨rfl, F2, ⟨e1, rfl⟩ | ⟨e1, rfl⟩ | ⟨e1, rfl⟩⟩ := hJ
          · cases e1
          · cases e1
          repeat walk_at "ds"
          refine ⟨a + m, q, .sh (.tuple [.str "choose", .tuple [.tuple ws2, .tuple []]]), z3, g2, ⟨by omega, by omega⟩, F1.trans F2, ?_⟩
          have es : (a : Int) + ([(m : Int), 0] : List Int).sum = ((a + m : Nat) : Int) := by simp
          exact congrArg (fun x => [Cl.sh (.tuple ws), .sh (.int x), .sh (.tuple [.str "choose", .tuple [.tuple ws2, .tuple []]]), z3]) es
    · obtain ⟨a, b, z2, z3, h1, h2, F1, rfl⟩ := hI
      have h1 : b = 0 := h1
      repeat walk_at "ds"
      have h2 := h2.1
      rw [List.length_nil] at h2
      rw [show a = n by omega]
      exact k _ F1.trim
end
end Ds.K41
namespace Ds.K41
open PySem PySem.Spec PyProof.Rows L2 Dn TL
mutual
/-- things whose texts are of K, so deep, so many nodes -/
inductive Nt (K : List Str) : Nat → D → Nat → Prop where
  | str {k : Nat} {x : Str} : Lo x → x ∈ K → Nt K k (.str x) 1
  | int {k : Nat} {i : Int} : Nt K k (.int i) 1
  | tup {k : Nat} {ds : List D} {n : Nat} : Nts K k ds n → Nt K (k + 1) (.tuple ds) (n + 1)
inductive Nts (K : List Str) : Nat → List D → Nat → Prop where
  | nil {k : Nat} : Nts K k [] 0
  | cons {k : Nat} {d : D} {ds : List D} {a b : Nat} : Nt K k d a → Nts K k ds b → Nts K k (d :: ds) (a + b)
end
theorem Nts.split {K : List Str} {k : Nat} : ∀ {xs ys : List D} {n : Nat}, Nts K k (xs ++ ys) n → ∃ a b, Nts K k xs a ∧ Nts K k ys b ∧ n = a + b
  | [], ys, n, h => ⟨0, n, .nil, h, by omega⟩
  | x :: xs, ys, n, h => by
    cases h with
    | cons h1 h2 =>
      obtain ⟨a, b, g1, g2, g3⟩ := Nts.split h2
      exact ⟨_, b, .cons h1 g1, g2, by omega⟩
theorem Nts.app {K : List Str} {k : Nat} : ∀ {xs ys : List D} {a b : Nat}, Nts K k xs a → Nts K k ys b → Nts K k (xs ++ ys) (a + b)
  | [], ys, a, b, h, g => by
    cases h
    rw [Nat.zero_add]
    exact g
  | x :: xs, ys, a, b, h, g => by
    cases h with
    | cons h1 h2 =>
      rw [Nat.add_assoc]
      exact .cons h1 (Nts.app h2 g)
mutual
theorem Nt.mono {K : List Str} {k k' : Nat} {d : D} {n : Nat} (h : Nt K k d n) (hk : k ≤ k') : Nt K k' d n := by
  cases h with
  | str a b => exact .str a b
  | int => exact .int
  | @tup k ds n g =>
    obtain ⟨j, rfl⟩ : ∃ j, k' = j + 1 := ⟨k' - 1, by omega⟩
    exact .tup (Nts.mono g (by omega))
theorem Nts.mono {K : List Str} {k k' : Nat} {ds : List D} {n : Nat} (h : Nts K k ds n) (hk : k ≤ k') : Nts K k' ds n := by
  cases h with
  | nil => exact .nil
  | cons a b => exact .cons (Nt.mono a hk) (Nts.mono b hk)
end
mutual
theorem Nt.sh {K : List Str} {k : Nat} {d : D} {n : Nat} (h : Nt K k d n) : Sh k d := by
  cases h with
  | str a b => exact Sh.str a.1
  | int => exact Sh.int
  | tup g => exact Sh.tup (Nts.sh g)
theorem Nts.sh {K : List Str} {k : Nat} {ds : List D} {n : Nat} (h : Nts K k ds n) : ∀ d ∈ ds, Sh k d := by
  cases h with
  | nil => exact fun d h => (nomatch h)
  | cons a b => exact fun x hx => (List.mem_cons.mp hx).elim (fun e => e ▸ Nt.sh a) (Nts.sh b x)
end
theorem Nt.pos {K : List Str} {k : Nat} {d : D} {n : Nat} (h : Nt K k d n) : 1 ≤ n := by
  cases h <;> omega
theorem Nts.len {K : List Str} {k : Nat} : ∀ {ds : List D} {n : Nat}, Nts K k ds n → ds.length ≤ n
  | [], _, _ => Nat.zero_le _
  | d :: ds, n, h => by
    cases h with
    | cons a b =>
      have := a.pos
      have := Nts.len b
      rw [List.length_cons]
      omega
end Ds.K41
namespace Ds.K41
open PySem PySem.Spec PyProof.Rows L2 Dn TL
section
variable {s : St} {Q : Cl → St → Prop} {K : List Str}
theorem names_within_ {d : D} {n k : Nat} (hd : Nt K k d n) (hk : k ≤ 60) (hn : n ≤ 900000) (h : ∀ l s' kvs, s.length ≤ l → s'[l]? = some (.dk kvs) → (∀ x c, valC kvs (.inr x) = some c → x ∈ K) → Fz s s' → Q (.lo l) s') : FRun f_names_within [.sh d] s Q := by
  refine frun_fn rfl ?_
  unfold m_names_within
  repeat walk_at "ds"
  have lq : (s ++ [Ob.dk []]).length = s.length + 1 := by simp
  have hd1 : Nts K k [d] n := by
    have := Nts.cons hd (.nil (K := K))
    exact this
  refine run_while (fun j e s' => ∃ (stk : List D) (kvs : List (Key × Cl)) (z3 z4 : Cl), Nts K k stk j ∧ kvs.length + j ≤ n ∧ s'[s.length]? = some (.dk kvs) ∧ (∀ kv ∈ kvs, ∃ x ∈ K, kv.1 = .inr x) ∧ s'[(s ++ [Ob.dk []]).length]? = some (.lst (stk.map Cl.sh)) ∧ Fz s s' ∧ e = [.sh d, .lo s.length, .lo (s ++ [Ob.dk []]).length, z3, z4]) n (by omega) ⟨[d], [], .no, .no, hd1, by simp, (app_old (by simp)).trans app_new, fun kv h => (nomatch h), app_new, Fz.app.trans Fz.app, rfl⟩ fun j e s' hI => ?_
  obtain ⟨stk, kvs, z3, z4, hs, hl, at1, hK, at2, F, rfl⟩ := hI
  have sl := hs.len
  have ne : PyData.eqv (.list stk) (.list []) = decide (stk = []) := by
    cases stk <;> rfl
  repeat walk_at "ds"
  refine ⟨_, _, snap_list at2, rfl, ?_⟩
  refine bx_ne (.inl rfl) ((Sh.lst hs.sh).ok (by omega)) (by decide) ?_
  rw [ne]
  refine ⟨rfl, ?_⟩
  by_cases hz : stk = []
  · rw [decide_eq_true hz]
    repeat walk_at "ds"
    rw [trim_lo (Nat.le_refl _)]
    refine h _ _ kvs (Nat.le_refl _) at1 (fun x c hv => ?_) F
    obtain ⟨y, hy, e⟩ := hK _ (valC_mem hv)
    cases e
    exact hy
  · rw [decide_eq_false hz]
    obtain ⟨ini, d1, rfl⟩ : ∃ ini d1, stk = ini ++ [d1] := ⟨stk.dropLast, stk.getLast hz, (List.dropLast_concat_getLast hz).symm⟩
    obtain ⟨a, b, g1, g2, g3⟩ := hs.split
    have g2' : Nt K k d1 b := by
      cases g2 with
      | cons x y => cases y; exact x
    have lts := lt_of_at at2
    repeat walk_at "ds"
    refine ⟨_, .sh d1, at2, ?_, ?_⟩
    · simp
    have dl : ((ini ++ [d1]).map Cl.sh).dropLast = ini.map Cl.sh := by simp
    rw [dl]
    have at3 : ∀ ob, (s'.set (s ++ [Ob.dk []]).length ob)[(s ++ [Ob.dk []]).length]? = some ob := fun ob => set_same lts
    have at4 : ∀ ob, (s'.set (s ++ [Ob.dk []]).length ob)[s.length]? = some (.dk kvs) := fun ob => (set_other (by omega)).trans at1
    have F2 : ∀ ob, Fz s (s'.set (s ++ [Ob.dk []]).length ob) := fun ob => F.put (by omega)
    cases g2' with
    | int =>
      repeat walk_at "ds"
      exact ⟨a, by omega, ini, kvs, _, _, g1, by omega, at4 _, hK, at3 _, F2 _, rfl⟩
    | @tup k ds m g =>
      have dsl := g.len
      have inl := g1.len
      repeat walk_at "ds"
      refine ⟨_, at3 _, ?_⟩
      repeat walk_at "ds"
      refine ⟨_, _, _, at3 _, rfl, rfl, line_of (by rw [List.length_map]; omega), ?_⟩
      refine turn_nx ?_
      refine ⟨a + m, by omega, ini ++ ds, kvs, _, _, g1.app (g.mono (by omega)), by omega, (set_other (by omega)).trans (at4 _), hK, ?_, (F2 _).put (by omega), rfl⟩
      rw [set_same (lt_of_at (at3 _))]
      simp
    | @str k x hx hxK =>
      have hxl := hx.1.1
      repeat walk_at "ds"
      refine bx_parts (by omega) ?_
      rw [only_part hx]
      repeat walk_at "ds"
      refine run_forR _ (fun r e s2 => ∃ z4' : Cl, e = [.sh d, .lo s.length, .lo (s ++ [Ob.dk []]).length, .sh (.str x), z4'] ∧ ∃ kvs', (r = [.str x] ∧ kvs' = kvs ∨ r = [] ∧ kvs'.length ≤ kvs.length + 1) ∧ (∀ kv ∈ kvs', ∃ x ∈ K, kv.1 = .inr x) ∧ s2[s.length]? = some (.dk kvs') ∧ s2[(s ++ [Ob.dk []]).length]? = some (.lst (ini.map Cl.sh)) ∧ Fz s s2) ⟨_, rfl, kvs, .inl ⟨rfl, rfl⟩, hK, at4 _, at3 _, F2 _⟩ (fun d2 r e s2 hJ => ?_) fun e s2 hJ => ?_
      · obtain ⟨z5, rfl, kvs', ⟨e1, rfl⟩ | ⟨e1, _⟩, hK', b1, b2, F3⟩ := hJ
        · obtain ⟨rfl, rfl⟩ := List.cons.inj e1
          refine ⟨_, rfl, ?_⟩
          repeat walk_at "ds"
          refine ⟨_, _, b1, rfl, line_of (by omega), ?_⟩
          refine turn_nx ?_
          refine ⟨_, rfl, _, .inr ⟨rfl, putC_len⟩, fun kv hkv => ?_, set_same (lt_of_at b1), (set_other (by omega)).trans b2, F3.put (Nat.le_refl _)⟩
          rcases putC_mem hkv with ⟨q1, _⟩ | q1
          · exact ⟨x, hxK, q1⟩
          · exact hK' kv q1
        · cases e1
      · obtain ⟨z5, rfl, kvs', ⟨e1, _⟩ | ⟨_, hl'⟩, hK', b1, b2, F3⟩ := hJ
        · cases e1
        refine turn_nx ?_
        exact ⟨a, by omega, ini, kvs', _, _, g1, by omega, b1, hK', b2, F3, rfl⟩
end
end Ds.K41
namespace Ds.K41
open PySem PySem.Spec PyProof.Rows L2 Dn TL
theorem trim_keep {n j : Nat} {c : Cl} {s : St} {ob : Ob} (hj : j < n) (h : s[j]? = some ob) (hb : Ob.below n ob = false) : trim n c s = s := by
  unfold trim
  rw [if_neg]
  intro z
  rw [Bool.and_eq_true] at z
  have := List.all_eq_true.mp z.2 ob (List.mem_of_getElem? (by rw [List.getElem?_take_of_lt hj]; exact h))
  rw [hb] at this
  cases this
theorem pl_below {W : D} {st nm wm n : Nat} (h : n ≤ st) : Ob.below n (.ins "Placing" (plF W st nm wm)) = false := by
  simp [Ob.below, plF, Cl.under]
  omega
end Ds.K41
namespace Ds.K41
open PySem PySem.Spec PyProof.Rows L2 Dn TL
section
variable {N : Nat → Str} {ds : List Df} {mn : List Wk} {K : List Str}
/-- what stands for a right program -/
structure PrOk (N : Nat → Str) (ds : List Df) (mn : List Wk) (K : List Str) : Prop where
  O : DfOk N ds
  hds : ds.length ≤ 10
  hK : K.length ≤ 13
  hsm : ∀ d ∈ ds, ∀ w ∈ d.row, sml w
  hmn : ∀ w ∈ mn, sml w ∧ w ≠ .ch
  hl : mn.length ≤ 1000
  nt : ∃ n, Nt K 20 (encP N ds mn) n ∧ n ≤ 900000
theorem init_ {s : St} {Q : Cl → St → Prop} (H : PrOk N ds mn K) (h : ∀ st s', PS s.length st (encP N ds mn) K 0 0 s' → Fz s s' → Q (.sh .none) s') : FRun f_Placing___init__ [.lo s.length, .sh (encP N ds mn)] (s ++ [.ins "Placing" []]) Q := by
  obtain ⟨n, nt, hn⟩ := H.nt
  refine frun_fn rfl ?_
  unfold m_Placing___init__
  have at1 : (s ++ [Ob.ins "Placing" []])[s.length]? = some (.ins "Placing" []) := app_new
  repeat walk_at "ds"
  refine ⟨_, at1, by decide, ?_⟩
  have at2 : ∀ ob, ((s ++ [Ob.ins "Placing" []]).set s.length ob)[s.length]? = some ob := fun ob => set_same (lt_of_at at1)
  repeat walk_at "ds"
  refine names_within_ nt (by decide) hn fun l s1 kvs hl1 hd hk F1 => ?_
  have at3 := F1.at_ (at2 _)
  have Fa : Fz s s1 := (Fz.app.put (Nat.le_refl _)).trans F1
  have ln : l ≠ s.length := by
    rw [List.length_set, List.length_append] at hl1
    simp at hl1
    omega
  repeat walk_at "ds"
  refine ⟨_, at3, Nat.lt_of_sub_eq_succ rfl, ?_⟩
  have at4 : ∀ ob, (s1.set s.length ob)[s.length]? = some ob := fun ob => set_same (lt_of_at at3)
  repeat walk_at "ds"
  refine ⟨_, at4 _, Nat.lt_of_sub_eq_succ rfl, ?_⟩
  have at5 : ∀ ob ob', ((s1.set s.length ob).set s.length ob')[s.length]? = some ob' := fun ob ob' => set_same (by simpa using lt_of_at at3)
  repeat walk_at "ds"
  refine ⟨_, at5 _ _, Nat.lt_of_sub_eq_succ rfl, ?_⟩
  repeat walk_at "ds"
  have at6 : ∀ ob ob' ob'', (((s1.set s.length ob).set s.length ob').set s.length ob'')[s.length]? = some ob'' := fun ob ob' ob'' => set_same (by simpa using lt_of_at at3)
  have l2 : s.length + 1 ≤ l := by
    rw [List.length_set, List.length_append] at hl1
    exact hl1
  have e1 := at6 (Ob.ins "Placing" (putFC "standing" (Cl.lo l) (putFC "whole" (Cl.sh (encP N ds mn)) []))) (Ob.ins "Placing" (putFC "names_made" (Cl.sh (PyData.int 0)) (putFC "standing" (Cl.lo l) (putFC "whole" (Cl.sh (encP N ds mn)) [])))) (Ob.ins "Placing" (plF (encP N ds mn) l 0 0))
  have tk := trim_keep (n := (s ++ [Ob.ins "Placing" []]).length) (c := .sh .none) (j := s.length) (by simp) e1 (pl_below (by rw [List.length_append]; exact l2))
  refine Eq.mpr (congrArg (Q (Cl.sh PyData.none)) tk) ?_
  refine h l _ ⟨e1, ⟨kvs, ?_, hk⟩, ln⟩ (((Fa.put (Nat.le_refl _)).put (Nat.le_refl _)).put (Nat.le_refl _))
  exact ((set_other ln).trans ((set_other ln).trans (set_other ln))).trans hd
/-- what is told of a program: its words, or that it is too long -/
def dueOc : Oc → D
  | .ok m => .int (m : Int)
  | _ => .str "long"
theorem in_place_ {s : St} {Q : Cl → St → Prop} {Y : Exn → St → Prop} (H : PrOk N ds mn K) (hb : rowOc (wOc ds 3 0) mn 0 ≠ .bad) (h : ∀ m ws s', rowOc (wOc ds 3 0) mn 0 = .ok m → CR (CW 4) ws m → m ≤ 300 → Q (.sh (.tuple [.tuple [], .tuple ws])) s') (hy : rowOc (wOc ds 3 0) mn 0 = .tl → ∀ s', Y ⟨"TooLong", none⟩ s') : FRunX Y f_in_place [.sh (encP N ds mn)] s Q := by
  refine frun_fn rfl ?_
  unfold m_in_place
  repeat walk_at "ds"
  refine init_ H fun st s1 P F1 => ⟨rfl, ?_⟩
  repeat walk_at "ds"
  refine ⟨_, P.ob, rfl, ?_⟩
  have lt1 := P.lt
  unfold encP at *
  repeat walk_at "ds"
  refine main_row (W := encP N ds mn) H.O H.hds H.hK rfl H.hsm H.hmn H.hl (kvs := []) (nm := 0) (wm := 0) (st := st) ⟨P.fz Fz.app, Nat.le_refl _, by omega, app_new, fun k c hk => (nomatch hk), by omega⟩ hb (fun ws m nm' s' g1 g2 g3 E' F' => ?_) fun g s' => hy g s'
  repeat walk_at "ds"
  exact h m ws _ g1 g3 E'.w
theorem told_ {s : St} {Q : Cl → St → Prop} (H : PrOk N ds mn K) (hb : rowOc (wOc ds 3 0) mn 0 ≠ .bad) (h : ∀ s', Q (.sh (dueOc (rowOc (wOc ds 3 0) mn 0))) s') : FRun f__law_told [.sh (encP N ds mn)] s Q := by
  refine frun_fn rfl ?_
  unfold m__law_told
  repeat walk_at "ds"
  refine run_tryAs ?_
  repeat walk_at "ds"
  refine in_place_ H hb (fun m ws s1 e c hm => ?_) fun e s1 => ?_
  · repeat walk_at "ds"
    refine counted_ 14 4 (by omega) c (by omega) fun s2 F2 => ?_
    repeat walk_at "ds"
    rw [e] at h
    exact h _
  · refine ⟨true, rfl, fun _ => ⟨by simp, ?_⟩, fun z => (nomatch z)⟩
    refine run_msHit ?_
    repeat walk_at "ds"
    rw [e] at h
    exact h _
end
end Ds.K41
namespace Ds.K41
open PySem PySem.Spec PyProof.Rows L2 Dn TL
def innerD (t w : Nat) : Df := ⟨2, List.replicate w 0, List.replicate w 0, List.replicate t (.tell 0) ++ [.lp]⟩
def outerD (c w : Nat) : Df := ⟨3, [], [], .ch :: List.replicate c (.call 2 (List.replicate w 0) (List.replicate w 1))⟩
def mnP (wp r : Nat) : List Wk := .lp :: (List.replicate wp (.wipe 1) ++ List.replicate r (.call 3 [] []))
def eachN (t c w : Nat) : Nat := 1 + 1 + c * (1 + t + 2 + (if w = 0 then 2 else 2 + 3)) + 2 * (1 + w)
def wps (t c r w more : Nat) : Nat := 298 + more - r * eachN t c w
def longDs : List Df := [⟨2, [], [], List.replicate 9 (.tell 0)⟩, ⟨3, [], [], List.replicate 9 (.call 2 [] [])⟩, ⟨4, [], [], List.replicate 9 (.call 3 [] [])⟩]
def longMn : List Wk := List.replicate 9 (.call 4 [] [])
def szs : List (Nat × Nat × Nat × Nat) := [(8, 5, 4, 0), (6, 6, 4, 0), (4, 6, 5, 0), (12, 3, 5, 0), (11, 4, 4, 0), (7, 4, 4, 1), (3, 6, 4, 1), (8, 3, 5, 1), (5, 7, 3, 1)]
def ocB (z : Nat × Nat × Nat × Nat) (more : Nat) : Bool :=
  match rowOc (wOc [innerD z.1 z.2.2.2, outerD z.2.1 z.2.2.2] 3 0) (mnP (wps z.1 z.2.1 z.2.2.1 z.2.2.2 more) z.2.2.1) 0 with
  | .ok n => decide (more = 0 ∧ n = 300)
  | .tl => decide (more ≠ 0)
  | .bad => false
theorem ocs : (szs.all fun z => (List.range 5).all fun m => ocB z m && decide (z.2.2.1 * eachN z.1 z.2.1 z.2.2.2 ≤ 298 + m)) = true := by decide +kernel
theorem oc_long : rowOc (wOc longDs 3 0) longMn 0 = .tl := by
  have : (match rowOc (wOc longDs 3 0) longMn 0 with | .tl => true | _ => false) = true := by decide +kernel
  revert this
  cases rowOc (wOc longDs 3 0) longMn 0 <;> simp
end Ds.K41
namespace Ds.K41
open PySem PySem.Spec PyProof.Rows L2 Dn TL
def KN (N : Nat → Str) : List Str := ["tell", "wipe", "out", "loop", "choose", "back", "call", N 0, N 1, N 2, N 3, N 4]
def nmOf (a b c d : Str) : Nat → Str
  | 0 => a
  | 1 => b
  | 2 => c
  | 3 => d
  | _ => "qlastony"
/-- names of the law -/
structure NsOk (N : Nat → Str) : Prop where
  lo : NmOk N
  up : ∀ i, N (i + 4) = N 4
  inj : ∀ i j, 2 ≤ i → i ≤ 4 → 2 ≤ j → j ≤ 4 → N i = N j → i = j
theorem Lo.lit (x : Str) (h1 : x.length ≤ 8) (h2 : (tl x).all (fun c => decide (c < 128 ∧ c ≠ 46)) = true) : Lo x := ⟨⟨h1, fun c hc => (of_decide_eq_true (List.all_eq_true.mp h2 c hc)).1⟩, fun h => (of_decide_eq_true (List.all_eq_true.mp h2 46 h)).2 rfl⟩
theorem Lo.of_nm {x : Str} (h : Nm x) : Lo x := ⟨h.ok, fun z => by have := h.2.2.1 46 z; omega⟩
theorem names_ok {xs : List Str} (h : Names xs) (hl : xs.length = 4) : ∃ a b c d, xs = [a, b, c, d] ∧ NsOk (nmOf a b c d) := by
  match xs, hl with
  | [a, b, c, d], _ =>
    have hn : ∀ x ∈ [a, b, c, d], Lo x ∧ x ≠ "qlastony" := fun x hx => ⟨Lo.of_nm (h.nm x hx).1, (h.nm x hx).2⟩
    have h2 := hn c (by simp)
    have h3 := hn d (by simp)
    have nd := h.nd
    simp only [List.nodup_cons, List.mem_cons, List.not_mem_nil, or_false, not_or] at nd
    refine ⟨a, b, c, d, rfl, fun i => ?_, fun i => rfl, fun i j i2 i4 j2 j4 e => ?_⟩
    · match i with
      | 0 => exact (hn a (by simp)).1
      | 1 => exact (hn b (by simp)).1
      | 2 => exact h2.1
      | 3 => exact h3.1
      | _ + 4 => exact Lo.lit "qlastony" (by decide) (by decide)
    · match i, j, i2, i4, j2, j4, e with
      | 2, 2, _, _, _, _, _ => rfl
      | 3, 3, _, _, _, _, _ => rfl
      | 4, 4, _, _, _, _, _ => rfl
      | 2, 3, _, _, _, _, e => exact absurd e nd.2.2.1
      | 3, 2, _, _, _, _, e => exact absurd e.symm nd.2.2.1
      | 2, 4, _, _, _, _, e => exact absurd e h2.2
      | 4, 2, _, _, _, _, e => exact absurd e.symm h2.2
      | 3, 4, _, _, _, _, e => exact absurd e h3.2
      | 4, 3, _, _, _, _, e => exact absurd e.symm h3.2
theorem NsOk.mem {N : Nat → Str} (h : NsOk N) : ∀ i, N i ∈ KN N := fun i => by
  unfold KN
  match i with
  | 0 => simp
  | 1 => simp
  | 2 => simp
  | 3 => simp
  | i + 4 =>
    have e := h.up i
    simp only [List.mem_cons]
    rw [e]
    simp
section
variable {N : Nat → Str}
theorem nt_n (h : NsOk N) (i k : Nat) : Nt (KN N) k (.str (N i)) 1 := .str (h.lo i) (h.mem i)
theorem nts_map {α : Type} {K : List Str} {k c : Nat} {f : α → D} : ∀ {l : List α}, (∀ a ∈ l, ∃ n, Nt K k (f a) n ∧ n ≤ c) → ∃ n, Nts K k (l.map f) n ∧ n ≤ c * l.length
  | [], _ => ⟨0, .nil, Nat.zero_le _⟩
  | a :: l, h => by
    obtain ⟨n, h1, h2⟩ := h a List.mem_cons_self
    obtain ⟨m, h3, h4⟩ := nts_map (l := l) fun x hx => h x (List.mem_cons_of_mem _ hx)
    refine ⟨n + m, .cons h1 h3, ?_⟩
    rw [List.length_cons, Nat.mul_add]
    omega
theorem nt_sts (h : NsOk N) (l : List Nat) (k : Nat) : ∃ n, Nt (KN N) (k + 1) (sts N l) n ∧ n ≤ l.length + 1 := by
  obtain ⟨n, h1, h2⟩ := nts_map (K := KN N) (k := k) (c := 1) (f := fun i => PyData.str (N i)) (l := l) fun i _ => ⟨1, nt_n h i k, Nat.le_refl _⟩
  refine ⟨n + 1, ?_, by omega⟩
  unfold sts tx
  rw [List.map_map]
  exact .tup h1
def sm4 : Wk → Prop
  | .call _ as gs => as.length ≤ 4 ∧ gs.length ≤ 4
  | _ => True
theorem sm4.sml {w : Wk} (h : sm4 w) : sml w := by
  cases w with
  | call f as gs => exact ⟨Nat.le_trans h.1 (by decide), Nat.le_trans h.2 (by decide)⟩
  | _ => trivial
theorem nt_word (h : NsOk N) {w : Wk} (hw : sm4 w) : ∃ n, Nt (KN N) 5 (encW N w) n ∧ n ≤ 20 := by
  have ks : ∀ x ∈ (["tell", "wipe", "out", "loop", "choose", "back", "call"] : List Str), ∀ k, Nt (KN N) k (.str x) 1 := fun x hx k => by
    refine .str ?_ ?_
    · simp only [List.mem_cons, List.not_mem_nil, or_false] at hx
      rcases hx with rfl | rfl | rfl | rfl | rfl | rfl | rfl <;> exact Lo.lit _ (by decide) (by decide)
    · unfold KN
      simp only [List.mem_cons, List.not_mem_nil, or_false] at hx
      rcases hx with rfl | rfl | rfl | rfl | rfl | rfl | rfl <;> simp
  have no : ∀ k, Nt (KN N) (k + 1) outD _ := fun k => .tup (.cons (ks "out" (by simp) k) (.cons .int .nil))
  have nbk : ∀ k, Nt (KN N) (k + 1) backD _ := fun k => .tup (.cons (ks "back" (by simp) k) .nil)
  cases w with
  | tell x => exact ⟨_, .tup (.cons (ks "tell" (by simp) _) (.cons (nt_n h x _) .nil)), by omega⟩
  | wipe x => exact ⟨_, .tup (.cons (ks "wipe" (by simp) _) (.cons (nt_n h x _) .nil)), by omega⟩
  | out => exact ⟨_, no _, by omega⟩
  | lp => exact ⟨_, .tup (.cons (ks "loop" (by simp) _) (.cons (.tup (.cons (no _) .nil)) .nil)), by omega⟩
  | ch => exact ⟨_, .tup (.cons (ks "choose" (by simp) _) (.cons (.tup (.cons (.tup (.cons (nbk _) .nil)) (.cons (.tup .nil) .nil))) .nil)), by omega⟩
  | call f as gs =>
    obtain ⟨n1, a1, a2⟩ := nt_sts h as 3
    obtain ⟨n2, b1, b2⟩ := nt_sts h gs 3
    have h1 := hw.1
    have h2 := hw.2
    exact ⟨_, .tup (.cons (ks "call" (by simp) _) (.cons (nt_n h f _) (.cons a1 (.cons b1 .nil)))), by omega⟩
theorem nt_row (h : NsOk N) {ws : List Wk} (hw : ∀ w ∈ ws, sm4 w) : ∃ n, Nt (KN N) 6 (encR N ws) n ∧ n ≤ 20 * ws.length + 1 := by
  obtain ⟨n, h1, h2⟩ := nts_map (K := KN N) (k := 5) (c := 20) (f := encW N) (l := ws) fun w hw' => nt_word h (hw w hw')
  exact ⟨n + 1, .tup h1, by omega⟩
theorem pr_ok (h : NsOk N) {ds : List Df} {mn : List Wk} (hd : ds.length ≤ 10) (h1 : ∀ d ∈ ds, 2 ≤ d.n ∧ d.n ≤ 4 ∧ d.ps.length ≤ 4 ∧ d.rs.length ≤ 4 ∧ d.row.length ≤ 100 ∧ ∀ w ∈ d.row, sm4 w) (h2 : ∀ w ∈ mn, sm4 w ∧ w ≠ .ch) (hl : mn.length ≤ 1000) : PrOk N ds mn (KN N) := by
  refine ⟨⟨h.lo, fun d hd d' hd' e => h.inj _ _ (h1 d hd).1 (h1 d hd).2.1 (h1 d' hd').1 (h1 d' hd').2.1 e⟩, hd, Nat.le_of_ble_eq_true rfl, fun d hd w hw => ((h1 d hd).2.2.2.2.2 w hw).sml, fun w hw => ⟨(h2 w hw).1.sml, (h2 w hw).2⟩, hl, ?_⟩
  obtain ⟨n, a1, a2⟩ := nts_map (K := KN N) (k := 7) (c := 3000) (f := encDf N) (l := ds) fun d hd => by
    obtain ⟨b1, b2, b3, b4, b5, b6⟩ := h1 d hd
    obtain ⟨m1, c1, c2⟩ := nt_sts h d.ps 5
    obtain ⟨m2, e1, e2⟩ := nt_sts h d.rs 5
    obtain ⟨m3, f1, f2⟩ := nt_row h b6
    exact ⟨_, .tup (.cons (nt_n h d.n _) (.cons c1 (.cons e1 (.cons f1 .nil)))), by omega⟩
  obtain ⟨m, g1, g2⟩ := nt_row h fun w hw => (h2 w hw).1
  exact ⟨_, (Nt.tup (.cons (.tup a1) (.cons (g1.mono (by decide)) .nil))).mono (by decide), by omega⟩
end
end Ds.K41
namespace Ds.K41
open PySem PySem.Spec PyProof.Rows L2 Dn TL
theorem bx_mulN {d : D} {n : Nat} {Q : D → Prop} (hn : n ≤ 1000) (h : Q (.tuple (List.replicate n d))) : ∃ c, dMulN (.tuple [d]) (.int (n : Int)) = some c ∧ Q c := ⟨_, mulN_one hn, h⟩
theorem rep_str {N : Nat → Str} {n i : Nat} : List.replicate n (PyData.str (N i)) = (tx N (List.replicate n i)).map PyData.str := by
  unfold tx
  rw [List.map_replicate, List.map_replicate]
theorem bx_mulI {d : D} {i : Int} {n : Nat} {Q : D → Prop} (e : i = n) (hn : n ≤ 1000) (h : Q (.tuple (List.replicate n d))) : ∃ c, dMulN (.tuple [d]) (.int i) = some c ∧ Q c := by
  subst e
  exact bx_mulN hn h
theorem wps_int {t c r w more : Nat} {X : Int} (hX : X = ((eachN t c w : Nat) : Int)) (hle : r * eachN t c w ≤ 298 + more) : (298 + (more : Int) - (r : Int) * X) = ((wps t c r w more : Nat) : Int) := by
  subst hX
  unfold wps
  rw [← Int.natCast_mul]
  omega
theorem each0 {t c : Nat} : 1 + 1 + (c : Int) * (1 + (t : Int) + 2 + 2) + 2 * (1 + ((0 : Nat) : Int)) = ((eachN t c 0 : Nat) : Int) := by
  unfold eachN
  rw [if_pos rfl]
  push_cast
  rfl
theorem each1 {t c : Nat} : 1 + 1 + (c : Int) * (1 + (t : Int) + 2 + (2 + 3)) + 2 * (1 + ((1 : Nat) : Int)) = ((eachN t c 1 : Nat) : Int) := by
  unfold eachN
  rw [if_neg (by decide)]
  push_cast
  rfl
theorem wps_le {t c r w more : Nat} (hm : more ≤ 5) : wps t c r w more ≤ 303 := by
  unfold wps
  omega
end Ds.K41
namespace Ds.K41
open PySem PySem.Spec PyProof.Rows L2 Dn TL
section
variable {N : Nat → Str} {s : St} {Q : Cl → St → Prop}
theorem prog_tail {t c r w more : Nat} {x y : Str} {nms sz inner outer : D} {ar : List D} (har : ar.length ≤ 10) (ht : t ≤ 20) (hc : c ≤ 20) (hr : r ≤ 20) (hw : w ≤ 1) (hm : more ≤ 5) (hle : r * eachN t c w ≤ 298 + more) (h3 : dIx nms (.int 3) = some (.str x)) (a4 a5 a8 a10 a11 a15 : Cl) (h : Q (.sh (.tuple [.tuple [inner, outer], .tuple (ar ++ List.replicate (wps t c r w more) (.tuple [.str "wipe", .str y]) ++ List.replicate r (.tuple [.str "call", .str x, .tuple [], .tuple []]))])) s) :
    RunX (fun y _ s' => NoF y s') (mSeq (mSet 10 (mSh (mBin dAdd (mBin dAdd (mBin dAdd (mC (PyData.int 1)) (mVar 12)) (mC (PyData.int 2))) (mIfE (mTest (mBin dEq (mVar 2) (mC (PyData.int 0)))) (mC (PyData.int 2)) (mBin dAdd (mC (PyData.int 2)) (mC (PyData.int 3)))))))
  (mSeq (mSet 11 (mSh (mBin dAdd (mBin dAdd (mBin dAdd (mC (PyData.int 1)) (mC (PyData.int 1))) (mBin dMul (mVar 13) (mVar 10))) (mBin dMul (mC (PyData.int 2)) (mBin dAdd (mC (PyData.int 1)) (mVar 2))))))
  (mSeq (mSet 8 (mSh (mBin dAdd (mVar 6) (mBin dMulN (mTup [(mSh (mTup [(mSh (mC (PyData.str "wipe"))), (mSh (mVar 16))]))]) (mBin dSub (mBin dAdd (mC (PyData.int 298)) (mVar 3)) (mBin dMul (mVar 14) (mVar 11)))))))
  (mRet (mSh (mTup [(mSh (mTup [(mSh (mVar 7)), (mSh (mVar 9))])), (mSh (mBin dAdd (mVar 8) (mBin dMulN (mTup [(mSh (mTup [(mSh (mC (PyData.str "call"))), (mSh (mBin dIx (mVar 0) (mC (PyData.int 3)))), (mSh (mTup [])), (mSh (mTup []))]))]) (mVar 14))))])))))) [.sh nms, .sh sz, .sh (.int (w : Int)), .sh (.int (more : Int)), a4, a5, .sh (.tuple ar), .sh inner, a8, .sh outer, a10, a11, .sh (.int (t : Int)), .sh (.int (c : Int)), .sh (.int (r : Int)), a15, .sh (.str y)] s
      fun fl e1 s1 => (fl = .nx → Q (.sh .none) (trim s.length (.sh .none) s1)) ∧ (∀ c, fl = .rt c → Q c (trim s.length c s1)) ∧ fl ≠ .bk ∧ fl ≠ .ct := by
  have wl := wps_le (t := t) (c := c) (r := r) (w := w) hm
  repeat walk_at "ds"
  refine two_dec (fun h6 => ?_) (fun h6 => ?_)
  · obtain rfl : w = 0 := by omega
    repeat walk_at "ds"
    refine bx_mulI (wps_int each0 hle) (by omega) ?_
    repeat walk_at "ds"
    refine bx_add_tup (line_of (by rw [List.length_replicate]; omega)) ?_
    repeat walk_at "ds"
    refine ⟨_, h3, ?_⟩
    repeat walk_at "ds"
    refine bx_mulN (n := r) (by omega) ?_
    repeat walk_at "ds"
    refine bx_add_tup (line_of (by rw [List.length_append, List.length_replicate, List.length_replicate]; omega)) ?_
    repeat walk_at "ds"
    rw [trim_len rfl]
    dsimp only
    exact h
  · obtain rfl : w = 1 := by omega
    repeat walk_at "ds"
    refine bx_mulI (wps_int each1 hle) (by omega) ?_
    repeat walk_at "ds"
    refine bx_add_tup (line_of (by rw [List.length_replicate]; omega)) ?_
    repeat walk_at "ds"
    refine ⟨_, h3, ?_⟩
    repeat walk_at "ds"
    refine bx_mulN (n := r) (by omega) ?_
    repeat walk_at "ds"
    refine bx_add_tup (line_of (by rw [List.length_append, List.length_replicate, List.length_replicate]; omega)) ?_
    repeat walk_at "ds"
    rw [trim_len rfl]
    dsimp only
    exact h
end
end Ds.K41
namespace Ds.K41
open PySem PySem.Spec PyProof.Rows L2 Dn TL
theorem sts_rep {N : Nat → Str} {w i : Nat} : sts N (List.replicate w i) = .tuple (List.replicate w (.str (N i))) := by
  unfold sts
  rw [← rep_str]
theorem enc_inner {N : Nat → Str} {t w : Nat} : encDf N (innerD t w) = .tuple [.str (N 2), .tuple (List.replicate w (.str (N 0))), .tuple (List.replicate w (.str (N 0))), .tuple (List.replicate t (.tuple [.str "tell", .str (N 0)]) ++ [.tuple [.str "loop", .tuple [outD]]])] := by
  unfold encDf innerD encR
  dsimp only
  rw [sts_rep, List.map_append, List.map_replicate]
  rfl
theorem enc_outer {N : Nat → Str} {c w : Nat} : encDf N (outerD c w) = .tuple [.str (N 3), .tuple [], .tuple [], .tuple ([.tuple [.str "choose", .tuple [.tuple [backD], .tuple []]]] ++ List.replicate c (.tuple [.str "call", .str (N 2), .tuple (List.replicate w (.str (N 0))), .tuple (List.replicate w (.str (N 1)))]))] := by
  unfold encDf outerD encR
  dsimp only
  rw [List.map_cons, List.map_replicate]
  have e : encW N (.call 2 (List.replicate w 0) (List.replicate w 1)) = .tuple [.str "call", .str (N 2), sts N (List.replicate w 0), sts N (List.replicate w 1)] := rfl
  rw [e, sts_rep, sts_rep]
  rfl
theorem enc_mn {N : Nat → Str} {wp r : Nat} : encR N (mnP wp r) = .tuple ([.tuple [.str "loop", .tuple [outD]]] ++ List.replicate wp (.tuple [.str "wipe", .str (N 1)]) ++ List.replicate r (.tuple [.str "call", .str (N 3), .tuple [], .tuple []])) := by
  unfold encR mnP
  rw [List.map_cons, List.map_append, List.map_replicate, List.map_replicate]
  rfl
end Ds.K41
namespace Ds.K41
open PySem PySem.Spec PyProof.Rows L2 Dn TL
section
variable {N : Nat → Str} {s : St} {Q : Cl → St → Prop}
theorem program_ {t c r w more : Nat} (ht : t ≤ 20) (hc : c ≤ 20) (hr : r ≤ 20) (hw : w ≤ 1) (hm : more ≤ 5) (hle : r * eachN t c w ≤ 298 + more) (h : Q (.sh (encP N [innerD t w, outerD c w] (mnP (wps t c r w more) r))) s) : FRun f__law_program [.sh (.list ([N 0, N 1, N 2, N 3].map PyData.str)), .sh (.tuple [.int (t : Int), .int (c : Int), .int (r : Int)]), .sh (.int (w : Int)), .sh (.int (more : Int))] s Q := by
  have h' : Q (.sh (.tuple [.tuple [encDf N (innerD t w), encDf N (outerD c w)], encR N (mnP (wps t c r w more) r)])) s := h
  rw [enc_inner, enc_outer, enc_mn] at h'
  clear h
  refine frun_fn rfl ?_
  unfold m__law_program
  repeat walk_at "ds"
  refine bx_mulN (n := w) (by omega) ?_
  repeat walk_at "ds"
  refine bx_mulN (n := w) (by omega) ?_
  repeat walk_at "ds"
  refine bx_mulN (n := t) (by omega) ?_
  repeat walk_at "ds"
  refine bx_add_tup (line_of (by simp; omega)) ?_
  repeat walk_at "ds"
  refine bx_mulN (n := c) (by omega) ?_
  repeat walk_at "ds"
  refine bx_add_tup (line_of (by simp; omega)) ?_
  iterate 3 walk_at "ds"
  exact prog_tail (ar := [.tuple [.str "loop", .tuple [outD]]]) (by simp) ht hc hr hw hm hle rfl _ _ _ _ _ _ h'
end
end Ds.K41
namespace Ds.K41
open PySem PySem.Spec PyProof.Rows L2 Dn TL
theorem long_ok {N : Nat → Str} (h : NsOk N) : PrOk N longDs longMn (KN N) := by
  refine pr_ok h (by decide) (fun d hd => ?_) (fun w hw => ?_) (by decide)
  · unfold longDs at hd
    simp only [List.mem_cons, List.not_mem_nil, or_false] at hd
    rcases hd with rfl | rfl | rfl
    all_goals
      refine ⟨by decide, by decide, by decide, by decide, by decide, fun w hw => ?_⟩
      have := (List.mem_replicate.mp hw).2
      subst this
      first
        | trivial
        | exact ⟨by decide, by decide⟩
  · have := (List.mem_replicate.mp hw).2
    subst this
    exact ⟨⟨by decide, by decide⟩, by simp⟩
theorem prog_ok {N : Nat → Str} (h : NsOk N) {t c r w more : Nat} (ht : t ≤ 20) (hc : c ≤ 20) (hr : r ≤ 20) (hw : w ≤ 1) (hm : more ≤ 5) : PrOk N [innerD t w, outerD c w] (mnP (wps t c r w more) r) (KN N) := by
  have wl := wps_le (t := t) (c := c) (r := r) (w := w) hm
  refine pr_ok h (Nat.le_of_ble_eq_true rfl) (fun d hd => ?_) (fun x hx => ?_) ?_
  · rcases List.mem_cons.mp hd with rfl | hd
    · refine ⟨Nat.le_refl 2, Nat.le_of_ble_eq_true rfl, by unfold innerD; rw [List.length_replicate]; omega, by unfold innerD; rw [List.length_replicate]; omega, by unfold innerD; rw [List.length_append, List.length_replicate]; simp; omega, fun x hx => ?_⟩
      rcases List.mem_append.mp hx with q | q
      · rw [(List.mem_replicate.mp q).2]; trivial
      · rw [List.mem_singleton.mp q]; trivial
    · rw [List.mem_singleton.mp hd]
      refine ⟨Nat.le_of_ble_eq_true rfl, Nat.le_of_ble_eq_true rfl, Nat.zero_le _, Nat.zero_le _, by unfold outerD; rw [List.length_cons, List.length_replicate]; omega, fun x hx => ?_⟩
      rcases List.mem_cons.mp hx with rfl | q
      · trivial
      · rw [(List.mem_replicate.mp q).2]
        exact ⟨by rw [List.length_replicate]; omega, by rw [List.length_replicate]; omega⟩
  · unfold mnP at hx
    rcases List.mem_cons.mp hx with rfl | q
    · exact ⟨trivial, by simp⟩
    · rcases List.mem_append.mp q with q | q
      · rw [(List.mem_replicate.mp q).2]; exact ⟨trivial, by simp⟩
      · rw [(List.mem_replicate.mp q).2]; exact ⟨⟨by decide, by decide⟩, by simp⟩
  · unfold mnP
    rw [List.length_cons, List.length_append, List.length_replicate, List.length_replicate]
    omega
/-- of three hundred words, or one more, or many more -/
theorem oc_of {t c r w more : Nat} (hz : (t, c, r, w) ∈ szs) (hm : more < 5) : (rowOc (wOc [innerD t w, outerD c w] 3 0) (mnP (wps t c r w more) r) 0 = if more = 0 then .ok 300 else .tl) ∧ r * eachN t c w ≤ 298 + more := by
  have h1 := List.all_eq_true.mp (List.all_eq_true.mp ocs _ hz) more (List.mem_range.mpr hm)
  rw [Bool.and_eq_true] at h1
  obtain ⟨h1, h2⟩ := h1
  refine ⟨?_, of_decide_eq_true h2⟩
  unfold ocB at h1
  dsimp only at h1
  cases q : rowOc (wOc [innerD t w, outerD c w] 3 0) (mnP (wps t c r w more) r) 0 with
  | ok n =>
    rw [q] at h1
    have := of_decide_eq_true h1
    rw [if_pos this.1, this.2]
  | tl =>
    rw [q] at h1
    rw [if_neg (of_decide_eq_true h1)]
  | bad =>
    rw [q] at h1
    cases h1
theorem sz_le {t c r w : Nat} (hz : (t, c, r, w) ∈ szs) : t ≤ 20 ∧ c ≤ 20 ∧ r ≤ 20 ∧ w ≤ 1 := by
  have : ∀ z ∈ szs, z.1 ≤ 20 ∧ z.2.1 ≤ 20 ∧ z.2.2.1 ≤ 20 ∧ z.2.2.2 ≤ 1 := by decide
  exact this _ hz
/-- what the law wants of a program -/
theorem told_p {N : Nat → Str} (h : NsOk N) {t c r w more : Nat} (hz : (t, c, r, w) ∈ szs) (hm : more < 5) {s : St} {Q : Cl → St → Prop} (k : ∀ s', Q (.sh (if more = 0 then .int 300 else .str "long")) s') : FRun f__law_told [.sh (encP N [innerD t w, outerD c w] (mnP (wps t c r w more) r))] s Q := by
  obtain ⟨h1, h2, h3, h4⟩ := sz_le hz
  obtain ⟨g1, g2⟩ := oc_of hz hm
  refine told_ (prog_ok h h1 h2 h3 h4 (by omega)) ?_ fun s' => ?_
  · rw [g1]
    split <;> intro z <;> cases z
  · rw [g1]
    have := k s'
    by_cases z : more = 0
    · rw [if_pos z] at *
      exact this
    · rw [if_neg z] at *
      exact this
theorem told_l {N : Nat → Str} (h : NsOk N) {s : St} {Q : Cl → St → Prop} (k : ∀ s', Q (.sh (.str "long")) s') : FRun f__law_told [.sh (encP N longDs longMn)] s Q := by
  refine told_ (long_ok h) ?_ fun s' => ?_
  · rw [oc_long]
    intro z
    cases z
  · rw [oc_long]
    exact k s'
theorem pick5 {k : Int} (h0 : 0 ≤ k) (h1 : k < 5) : ∃ t c r : Nat, (t, c, r, 0) ∈ szs ∧ dIx (.list [.tuple [.int 8, .int 5, .int 4], .tuple [.int 6, .int 6, .int 4], .tuple [.int 4, .int 6, .int 5], .tuple [.int 12, .int 3, .int 5], .tuple [.int 11, .int 4, .int 4]]) (.int k) = some (.tuple [.int (t : Int), .int (c : Int), .int (r : Int)]) := by
  rcases (by omega : k = 0 ∨ k = 1 ∨ k = 2 ∨ k = 3 ∨ k = 4) with rfl | rfl | rfl | rfl | rfl
  · exact ⟨8, 5, 4, by decide, rfl⟩
  · exact ⟨6, 6, 4, by decide, rfl⟩
  · exact ⟨4, 6, 5, by decide, rfl⟩
  · exact ⟨12, 3, 5, by decide, rfl⟩
  · exact ⟨11, 4, 4, by decide, rfl⟩
theorem pick4 {k : Int} (h0 : 0 ≤ k) (h1 : k < 4) : ∃ t c r : Nat, (t, c, r, 1) ∈ szs ∧ dIx (.list [.tuple [.int 7, .int 4, .int 4], .tuple [.int 3, .int 6, .int 4], .tuple [.int 8, .int 3, .int 5], .tuple [.int 5, .int 7, .int 3]]) (.int k) = some (.tuple [.int (t : Int), .int (c : Int), .int (r : Int)]) := by
  rcases (by omega : k = 0 ∨ k = 1 ∨ k = 2 ∨ k = 3) with rfl | rfl | rfl | rfl
  · exact ⟨7, 4, 4, by decide, rfl⟩
  · exact ⟨3, 6, 4, by decide, rfl⟩
  · exact ⟨8, 3, 5, by decide, rfl⟩
  · exact ⟨5, 7, 3, by decide, rfl⟩
def dueM (more : Nat) : D := if more = 0 then .int 300 else .str "long"
theorem due_ne {more : Nat} : ∃ c, dNe (dueM more) (dueM more) = some c ∧ c = .bool false := by
  unfold dueM
  split
  · exact ⟨_, rfl, rfl⟩
  · exact ⟨_, rfl, rfl⟩
theorem good : Good := by
  intro ns hns
  suffices H : FRun f_law [.sh (.list (ns.map PyData.int))] [] fun c s => c = .sh (.bool true) by
    obtain ⟨c, s', h1, rfl⟩ := H.to
    exact ⟨s', h1⟩
  refine frun_fn rfl ?_
  unfold m_law
  repeat walk_at "ds"
  generalize hv : (if (if (5 : Int) < ((ns.map PyData.int).length : Int) then (5 : Int) else ((ns.map PyData.int).length : Int)) > 1 then (if (5 : Int) < ((ns.map PyData.int).length : Int) then (5 : Int) else ((ns.map PyData.int).length : Int)) else 1) = v
  clear hv
  refine run_forL _ (fun i e s' => ∃ z1 z2 z3 z4 z5 z6 z7 z8 z9, e = [.sh (.list (ns.map PyData.int)), z1, z2, z3, z4, z5, z6, z7, z8, z9]) ⟨_, _, _, _, _, _, _, _, _, rfl⟩ (fun i_ d e s' hd hI => ?_) fun e s' hI => ?_
  · obtain ⟨z1, z2, z3, z4, z5, z6, z7, z8, z9, rfl⟩ := hI
    obtain ⟨rfl, hi⟩ := rngD_at hd
    refine ⟨_, rfl, ?_⟩
    repeat walk_at "ds"
    refine deck (by omega) fun st hst => ?_
    have D0 : Dk 0 s'.length (s' ++ [Ob.lst (st.map Cl.sh)]) := ⟨st, app_new, hst⟩
    repeat walk_at "ds"
    refine names D0 (by omega) (by omega) fun xs s1 hx hxl D1 F1 => ?_
    obtain ⟨a, b, c, d, rfl, NO⟩ := names_ok hx hxl
    repeat walk_at "ds"
    refine draw D1 (by omega) (by omega) fun w s2 w0 w1 D2 F2 => ?_
    repeat walk_at "ds"
    refine draw D2 (by omega) (by omega) fun k s3 k0 k1 D3 F3 => ?_
    repeat walk_at "ds"
    obtain ⟨t, c', r, hz, he⟩ := pick5 k0 k1
    refine ⟨_, he, ?_⟩
    refine seq_nx ?_
    refine run_seqP (fun e1 s4 => ∃ (t c' r w' : Nat) (z6 z7 z8 z9 : Cl), (t, c', r, w') ∈ szs ∧ Dk 30 s'.length s4 ∧ e1 = [.sh (.list (ns.map PyData.int)), .sh (.int (0 + (i_ : Int))), .lo s'.length, .sh (.list ([a, b, c, d].map PyData.str)), .sh (.int (w' : Int)), .sh (.tuple [.int (t : Int), .int (c' : Int), .int (r : Int)]), z6, z7, z8, z9]) ?_ ?_
    · repeat walk_at "ds"
      refine two_dec (fun h6 => ?_) (fun h6 => ?_)
      · repeat walk_at "ds"
        refine draw D3 (by omega) (by omega) fun k2 s4 k3 k4 D4 F4 => ?_
        obtain ⟨t, c', r, hz, he⟩ := pick4 k3 k4
        repeat walk_at "ds"
        refine ⟨_, he, ?_⟩
        subst h6
        exact ⟨rfl, t, c', r, 1, _, _, _, _, hz, D4.mono (by omega), rfl⟩
      · repeat walk_at "ds"
        obtain rfl : w = 0 := by omega
        exact ⟨rfl, t, c', r, 0, _, _, _, _, hz, D3.mono (by omega), rfl⟩
    · rintro e1 s4 ⟨t, c', r, w', z6, z7, z8, z9, hz, D4, rfl⟩
      obtain ⟨h1, h2, h3, h4⟩ := sz_le hz
      repeat walk_at "ds"
      refine draw D4 (by omega) (by omega) fun m s5 m0 m1 D5 F5 => ?_
      repeat walk_at "ds"
      refine run_forR _ (fun r0 e s6 => ∃ z6 z7 z8 z9 : Cl, (∀ x ∈ r0, ∃ more : Nat, more < 5 ∧ x = .tuple [.int (more : Int), dueM more]) ∧ e = [.sh (.list (ns.map PyData.int)), .sh (.int (0 + (i_ : Int))), .lo s'.length, .sh (.list ([a, b, c, d].map PyData.str)), .sh (.int (w' : Int)), .sh (.tuple [.int (t : Int), .int (c' : Int), .int (r : Int)]), z6, z7, z8, z9]) ⟨_, _, _, _, fun x hx => ?_, rfl⟩ (fun d1 r1 e s6 hJ => ?_) fun e s6 hJ => ?_
      · rcases List.mem_cons.mp hx with rfl | hx
        · exact ⟨0, by decide, rfl⟩
        rcases List.mem_cons.mp hx with rfl | hx
        · exact ⟨1, by decide, rfl⟩
        · rw [List.mem_singleton.mp hx]
          obtain ⟨j, rfl⟩ := Int.eq_ofNat_of_zero_le m0
          refine ⟨1 + j, by omega, ?_⟩
          have e1 : (1 : Int) + (j : Int) = ((1 + j : Nat) : Int) := by omega
          have e2 : dueM (1 + j) = .str "long" := if_neg (by omega)
          rw [e2, ← e1]
      · obtain ⟨z6, z7, z8, z9, hr1, rfl⟩ := hJ
        obtain ⟨more, hm, rfl⟩ := hr1 d1 List.mem_cons_self
        refine ⟨_, rfl, ?_⟩
        obtain ⟨cn, hc1, rfl⟩ := due_ne (more := more)
        obtain ⟨g1, g2⟩ := oc_of hz hm
        repeat walk_at "ds"
        refine program_ (N := nmOf a b c d) h1 h2 h3 h4 (by omega) g2 ?_
        repeat walk_at "ds"
        refine told_p NO hz hm fun s7 => ?_
        repeat walk_at "ds"
        refine ⟨_, hc1, ?_⟩
        repeat walk_at "ds"
        refine told_p NO hz hm fun s8 => ?_
        repeat walk_at "ds"
        refine ⟨_, hc1, ?_⟩
        repeat walk_at "ds"
        exact ⟨_, _, _, _, fun x hx => hr1 x (List.mem_cons_of_mem _ hx), rfl⟩
      · obtain ⟨z6, z7, z8, z9, _, rfl⟩ := hJ
        repeat walk_at "ds"
        refine told_l (N := nmOf a b c d) NO fun s7 => ?_
        repeat walk_at "ds"
        exact ⟨_, _, _, _, _, _, _, _, _, rfl⟩
  · obtain ⟨z1, z2, z3, z4, z5, z6, z7, z8, z9, rfl⟩ := hI
    repeat walk_at "ds"
    rfl
end Ds.K41
namespace Ds.K41
open PySem PySem.Spec PyProof.Rows L2 Dn
def topS (i : Nat) : Stmt := PySem.Challenge.pw_wipeways_k41_too_long_in_place.main.body.getD i (.Pass ⟨0, 0, 0, 0⟩)
abbrev s_is_name : Stmt := topS 12
abbrev N_is_name : List Str := ["thing", "sign"]
theorem sc_is_name : FnScope N_is_name ["thing"] (defScope s_is_name) := ⟨rfl, rfl, rfl, by decide +kernel, rfl, by decide +kernel, by decide +kernel⟩
abbrev s_first_name : Stmt := topS 13
abbrev N_first_name : List Str := ["box"]
theorem sc_first_name : FnScope N_first_name ["box"] (defScope s_first_name) := ⟨rfl, rfl, rfl, by decide +kernel, rfl, by decide +kernel, by decide +kernel⟩
abbrev s_rows_in : Stmt := topS 16
abbrev N_rows_in : List Str := ["word"]
theorem sc_rows_in : FnScope N_rows_in ["word"] (defScope s_rows_in) := ⟨rfl, rfl, rfl, by decide +kernel, rfl, by decide +kernel, by decide +kernel⟩
abbrev s_def_of : Stmt := topS 17
abbrev N_def_of : List Str := ["program", "name", "one"]
theorem sc_def_of : FnScope N_def_of ["program", "name"] (defScope s_def_of) := ⟨rfl, rfl, rfl, by decide +kernel, rfl, by decide +kernel, by decide +kernel⟩
abbrev s_boxes_of : Stmt := topS 18
abbrev N_boxes_of : List Str := ["word"]
theorem sc_boxes_of : FnScope N_boxes_of ["word"] (defScope s_boxes_of) := ⟨rfl, rfl, rfl, by decide +kernel, rfl, by decide +kernel, by decide +kernel⟩
abbrev s_boxes_in : Stmt := topS 19
abbrev N_boxes_in : List Str := ["row", "found", "word", "inner"]
theorem sc_boxes_in : FnScope N_boxes_in ["row"] (defScope s_boxes_in) := ⟨rfl, rfl, rfl, by decide +kernel, rfl, by decide +kernel, by decide +kernel⟩
abbrev s_names_in : Stmt := topS 23
abbrev N_names_in : List Str := ["row", "found", "box", "word", "inner"]
theorem sc_names_in : FnScope N_names_in ["row"] (defScope s_names_in) := ⟨rfl, rfl, rfl, by decide +kernel, rfl, by decide +kernel, by decide +kernel⟩
abbrev s_names_within : Stmt := topS 24
abbrev N_names_within : List Str := ["thing", "found", "todo", "one", "name"]
theorem sc_names_within : FnScope N_names_within ["thing"] (defScope s_names_within) := ⟨rfl, rfl, rfl, by decide +kernel, rfl, by decide +kernel, by decide +kernel⟩
abbrev s_name_by : Stmt := topS 25
abbrev N_name_by : List Str := ["number", "name", "k"]
theorem sc_name_by : FnScope N_name_by ["number"] (defScope s_name_by) := ⟨rfl, rfl, rfl, by decide +kernel, rfl, by decide +kernel, by decide +kernel⟩
abbrev s_renamed : Stmt := topS 27
abbrev N_renamed : List Str := ["boxes", "names", "found", "box", "old"]
theorem sc_renamed : FnScope N_renamed ["boxes", "names"] (defScope s_renamed) := ⟨rfl, rfl, rfl, by decide +kernel, rfl, by decide +kernel, by decide +kernel⟩
abbrev s_Placing___init__ : Stmt := inClass (topS 26) 0
abbrev N_Placing___init__ : List Str := ["self", "program"]
theorem sc_Placing___init__ : FnScope N_Placing___init__ ["self", "program"] (defScope s_Placing___init__) := ⟨rfl, rfl, rfl, by decide +kernel, rfl, by decide +kernel, by decide +kernel⟩
abbrev s_Placing_fresh_name : Stmt := inClass (topS 26) 1
abbrev N_Placing_fresh_name : List Str := ["self", "found"]
theorem sc_Placing_fresh_name : FnScope N_Placing_fresh_name ["self"] (defScope s_Placing_fresh_name) := ⟨rfl, rfl, rfl, by decide +kernel, rfl, by decide +kernel, by decide +kernel⟩
abbrev s_Placing_tally : Stmt := inClass (topS 26) 2
abbrev N_Placing_tally : List Str := ["self", "many"]
theorem sc_Placing_tally : FnScope N_Placing_tally ["self", "many"] (defScope s_Placing_tally) := ⟨rfl, rfl, rfl, by decide +kernel, rfl, by decide +kernel, by decide +kernel⟩
abbrev s_Placing_put_leaving : Stmt := inClass (topS 26) 5
abbrev N_Placing_put_leaving : List Str := ["self", "leaving", "around", "found", "copies", "others", "result", "get"]
theorem sc_Placing_put_leaving : FnScope N_Placing_put_leaving ["self", "leaving", "around"] (defScope s_Placing_put_leaving) := ⟨rfl, rfl, rfl, by decide +kernel, rfl, by decide +kernel, by decide +kernel⟩
abbrev s_Placing_put_row : Stmt := inClass (topS 26) 3
abbrev N_Placing_put_row : List Str := ["self", "row", "names", "leaving", "around", "found", "word"]
theorem sc_Placing_put_row : FnScope N_Placing_put_row ["self", "row", "names", "leaving", "around"] (defScope s_Placing_put_row) := ⟨rfl, rfl, rfl, by decide +kernel, rfl, by decide +kernel, by decide +kernel⟩
abbrev s_Placing_put_word : Stmt := inClass (topS 26) 4
abbrev N_Placing_put_word : List Str := ["self", "word", "names", "leaving", "around", "inner"]
theorem sc_Placing_put_word : FnScope N_Placing_put_word ["self", "word", "names", "leaving", "around"] (defScope s_Placing_put_word) := ⟨rfl, rfl, rfl, by decide +kernel, rfl, by decide +kernel, by decide +kernel⟩
abbrev s_Placing_put_call : Stmt := inClass (topS 26) 6
abbrev N_Placing_put_call : List Str := ["self", "name", "args", "gets", "boxes", "names", "old", "others", "leaving", "found", "inner", "one", "params", "results", "row", "param", "arg", "box"]
theorem sc_Placing_put_call : FnScope N_Placing_put_call ["self", "name", "args", "gets"] (defScope s_Placing_put_call) := ⟨rfl, rfl, rfl, by decide +kernel, rfl, by decide +kernel, by decide +kernel⟩
abbrev s_in_place : Stmt := topS 28
abbrev N_in_place : List Str := ["program", "placing"]
theorem sc_in_place : FnScope N_in_place ["program"] (defScope s_in_place) := ⟨rfl, rfl, rfl, by decide +kernel, rfl, by decide +kernel, by decide +kernel⟩
abbrev s__law_deck : Stmt := topS 30
abbrev N__law_deck : List Str := ["_law_script", "_law_k", "_law_cell"]
theorem sc__law_deck : FnScope N__law_deck ["_law_script", "_law_k"] (defScope s__law_deck) := ⟨rfl, rfl, rfl, by decide +kernel, rfl, by decide +kernel, by decide +kernel⟩
abbrev s__law_draw : Stmt := topS 31
abbrev N__law_draw : List Str := ["_law_deck_here", "_law_many", "_law_number", "_law_got"]
theorem sc__law_draw : FnScope N__law_draw ["_law_deck_here", "_law_many"] (defScope s__law_draw) := ⟨rfl, rfl, rfl, by decide +kernel, rfl, by decide +kernel, by decide +kernel⟩
abbrev s__law_names : Stmt := topS 32
abbrev N__law_names : List Str := ["_law_deck_here", "_law_many", "_law_letters", "_law_base", "_law_at", "_law_first", "_law_longer", "_law_got", "_law_k"]
theorem sc__law_names : FnScope N__law_names ["_law_deck_here", "_law_many"] (defScope s__law_names) := ⟨rfl, rfl, rfl, by decide +kernel, rfl, by decide +kernel, by decide +kernel⟩
abbrev s__law_counted : Stmt := topS 34
abbrev N__law_counted : List Str := ["_law_row", "_law_many", "_law_word", "_law_one"]
theorem sc__law_counted : FnScope N__law_counted ["_law_row"] (defScope s__law_counted) := ⟨rfl, rfl, rfl, by decide +kernel, rfl, by decide +kernel, by decide +kernel⟩
abbrev s__law_told : Stmt := topS 33
abbrev N__law_told : List Str := ["_law_program_here", "_law_told_here", "e", "_law_other"]
theorem sc__law_told : FnScope N__law_told ["_law_program_here"] (defScope s__law_told) := ⟨rfl, rfl, rfl, by decide +kernel, rfl, by decide +kernel, by decide +kernel⟩
abbrev s__law_program : Stmt := topS 35
abbrev N__law_program : List Str := ["_law_names_here", "_law_sizes", "_law_wide", "_law_more", "_law_params", "_law_gets", "_law_around", "_law_inner", "_law_ahead", "_law_outer", "_law_many", "_law_each", "_law_tells", "_law_calls", "_law_rows", "_law_x", "_law_y"]
theorem sc__law_program : FnScope N__law_program ["_law_names_here", "_law_sizes", "_law_wide", "_law_more"] (defScope s__law_program) := ⟨rfl, rfl, rfl, by decide +kernel, rfl, by decide +kernel, by decide +kernel⟩
abbrev s_law : Stmt := topS 36
abbrev N_law : List Str := ["_law_script", "_law_k", "_law_deck_here", "_law_names_here", "_law_wide", "_law_sizes", "_law_long", "_law_program_here", "_law_more", "_law_due"]
theorem sc_law : FnScope N_law ["_law_script"] (defScope s_law) := ⟨rfl, rfl, rfl, by decide +kernel, rfl, by decide +kernel, by decide +kernel⟩
structure Tx (w : World) (K : Frag) (mg : Str → Option Value) where
  a_is_name : Addr
  d_is_name : FuncData
  F_is_name : Fun K "is_name" "is_name" s_is_name a_is_name d_is_name
  b_is_name : Binds K d_is_name ["thing"] []
  g_is_name : mg "is_name" = some (.ref a_is_name)
  a_first_name : Addr
  d_first_name : FuncData
  F_first_name : Fun K "first_name" "first_name" s_first_name a_first_name d_first_name
  b_first_name : Binds K d_first_name ["box"] []
  g_first_name : mg "first_name" = some (.ref a_first_name)
  a_rows_in : Addr
  d_rows_in : FuncData
  F_rows_in : Fun K "rows_in" "rows_in" s_rows_in a_rows_in d_rows_in
  b_rows_in : Binds K d_rows_in ["word"] []
  g_rows_in : mg "rows_in" = some (.ref a_rows_in)
  a_def_of : Addr
  d_def_of : FuncData
  F_def_of : Fun K "def_of" "def_of" s_def_of a_def_of d_def_of
  b_def_of : Binds K d_def_of ["program", "name"] []
  g_def_of : mg "def_of" = some (.ref a_def_of)
  a_boxes_of : Addr
  d_boxes_of : FuncData
  F_boxes_of : Fun K "boxes_of" "boxes_of" s_boxes_of a_boxes_of d_boxes_of
  b_boxes_of : Binds K d_boxes_of ["word"] []
  g_boxes_of : mg "boxes_of" = some (.ref a_boxes_of)
  a_boxes_in : Addr
  d_boxes_in : FuncData
  F_boxes_in : Fun K "boxes_in" "boxes_in" s_boxes_in a_boxes_in d_boxes_in
  b_boxes_in : Binds K d_boxes_in ["row"] []
  g_boxes_in : mg "boxes_in" = some (.ref a_boxes_in)
  a_names_in : Addr
  d_names_in : FuncData
  F_names_in : Fun K "names_in" "names_in" s_names_in a_names_in d_names_in
  b_names_in : Binds K d_names_in ["row"] []
  g_names_in : mg "names_in" = some (.ref a_names_in)
  a_names_within : Addr
  d_names_within : FuncData
  F_names_within : Fun K "names_within" "names_within" s_names_within a_names_within d_names_within
  b_names_within : Binds K d_names_within ["thing"] []
  g_names_within : mg "names_within" = some (.ref a_names_within)
  a_name_by : Addr
  d_name_by : FuncData
  F_name_by : Fun K "name_by" "name_by" s_name_by a_name_by d_name_by
  b_name_by : Binds K d_name_by ["number"] []
  g_name_by : mg "name_by" = some (.ref a_name_by)
  a_renamed : Addr
  d_renamed : FuncData
  F_renamed : Fun K "renamed" "renamed" s_renamed a_renamed d_renamed
  b_renamed : Binds K d_renamed ["boxes", "names"] []
  g_renamed : mg "renamed" = some (.ref a_renamed)
  a_Placing___init__ : Addr
  d_Placing___init__ : FuncData
  F_Placing___init__ : Fun K "__init__" "Placing.__init__" s_Placing___init__ a_Placing___init__ d_Placing___init__
  b_Placing___init__ : Binds K d_Placing___init__ ["self", "program"] []
  a_Placing_fresh_name : Addr
  d_Placing_fresh_name : FuncData
  F_Placing_fresh_name : Fun K "fresh_name" "Placing.fresh_name" s_Placing_fresh_name a_Placing_fresh_name d_Placing_fresh_name
  b_Placing_fresh_name : Binds K d_Placing_fresh_name ["self"] []
  a_Placing_tally : Addr
  d_Placing_tally : FuncData
  F_Placing_tally : Fun K "tally" "Placing.tally" s_Placing_tally a_Placing_tally d_Placing_tally
  b_Placing_tally : Binds K d_Placing_tally ["self", "many"] []
  a_Placing_put_leaving : Addr
  d_Placing_put_leaving : FuncData
  F_Placing_put_leaving : Fun K "put_leaving" "Placing.put_leaving" s_Placing_put_leaving a_Placing_put_leaving d_Placing_put_leaving
  b_Placing_put_leaving : Binds K d_Placing_put_leaving ["self", "leaving", "around"] []
  a_Placing_put_row : Addr
  d_Placing_put_row : FuncData
  F_Placing_put_row : Fun K "put_row" "Placing.put_row" s_Placing_put_row a_Placing_put_row d_Placing_put_row
  b_Placing_put_row : Binds K d_Placing_put_row ["self", "row", "names", "leaving", "around"] []
  a_Placing_put_word : Addr
  d_Placing_put_word : FuncData
  F_Placing_put_word : Fun K "put_word" "Placing.put_word" s_Placing_put_word a_Placing_put_word d_Placing_put_word
  b_Placing_put_word : Binds K d_Placing_put_word ["self", "word", "names", "leaving", "around"] []
  a_Placing_put_call : Addr
  d_Placing_put_call : FuncData
  F_Placing_put_call : Fun K "put_call" "Placing.put_call" s_Placing_put_call a_Placing_put_call d_Placing_put_call
  b_Placing_put_call : Binds K d_Placing_put_call ["self", "name", "args", "gets"] []
  a_in_place : Addr
  d_in_place : FuncData
  F_in_place : Fun K "in_place" "in_place" s_in_place a_in_place d_in_place
  b_in_place : Binds K d_in_place ["program"] []
  g_in_place : mg "in_place" = some (.ref a_in_place)
  a__law_deck : Addr
  d__law_deck : FuncData
  F__law_deck : Fun K "_law_deck" "_law_deck" s__law_deck a__law_deck d__law_deck
  b__law_deck : Binds K d__law_deck ["_law_script", "_law_k"] []
  g__law_deck : mg "_law_deck" = some (.ref a__law_deck)
  a__law_draw : Addr
  d__law_draw : FuncData
  F__law_draw : Fun K "_law_draw" "_law_draw" s__law_draw a__law_draw d__law_draw
  b__law_draw : Binds K d__law_draw ["_law_deck_here", "_law_many"] []
  g__law_draw : mg "_law_draw" = some (.ref a__law_draw)
  a__law_names : Addr
  d__law_names : FuncData
  F__law_names : Fun K "_law_names" "_law_names" s__law_names a__law_names d__law_names
  b__law_names : Binds K d__law_names ["_law_deck_here", "_law_many"] []
  g__law_names : mg "_law_names" = some (.ref a__law_names)
  a__law_counted : Addr
  d__law_counted : FuncData
  F__law_counted : Fun K "_law_counted" "_law_counted" s__law_counted a__law_counted d__law_counted
  b__law_counted : Binds K d__law_counted ["_law_row"] []
  g__law_counted : mg "_law_counted" = some (.ref a__law_counted)
  a__law_told : Addr
  d__law_told : FuncData
  F__law_told : Fun K "_law_told" "_law_told" s__law_told a__law_told d__law_told
  b__law_told : Binds K d__law_told ["_law_program_here"] []
  g__law_told : mg "_law_told" = some (.ref a__law_told)
  a__law_program : Addr
  d__law_program : FuncData
  F__law_program : Fun K "_law_program" "_law_program" s__law_program a__law_program d__law_program
  b__law_program : Binds K d__law_program ["_law_names_here", "_law_sizes", "_law_wide", "_law_more"] []
  g__law_program : mg "_law_program" = some (.ref a__law_program)
  a_law : Addr
  d_law : FuncData
  F_law : Fun K "law" "law" s_law a_law d_law
  b_law : Binds K d_law ["_law_script"] []
  g_law : mg "law" = some (.ref a_law)
  z_ValueError : mg "ValueError" = none
  z_all : mg "all" = none
  z_int : mg "int" = none
  z_isinstance : mg "isinstance" = none
  z_len : mg "len" = none
  z_list : mg "list" = none
  z_max : mg "max" = none
  z_min : mg "min" = none
  z_range : mg "range" = none
  z_set : mg "set" = none
  z_sorted : mg "sorted" = none
  z_str : mg "str" = none
  z_sum : mg "sum" = none
  z_tuple : mg "tuple" = none
  z_zip : mg "zip" = none
  u_LETTERS_inplace : Value
  x_LETTERS_inplace : V
  g_LETTERS_inplace : mg "LETTERS_inplace" = some u_LETTERS_inplace
  v_LETTERS_inplace : RelV x_LETTERS_inplace u_LETTERS_inplace
  r_LETTERS_inplace : ∀ H, Rp K H x_LETTERS_inplace c_LETTERS_inplace
  u_LETTERS_names : Value
  x_LETTERS_names : V
  g_LETTERS_names : mg "LETTERS_names" = some u_LETTERS_names
  v_LETTERS_names : RelV x_LETTERS_names u_LETTERS_names
  r_LETTERS_names : ∀ H, Rp K H x_LETTERS_names c_LETTERS_names
  u_LONGEST : Value
  x_LONGEST : V
  g_LONGEST : mg "LONGEST" = some u_LONGEST
  v_LONGEST : RelV x_LONGEST u_LONGEST
  r_LONGEST : ∀ H, Rp K H x_LONGEST c_LONGEST
  u_MOST_WORDS : Value
  x_MOST_WORDS : V
  g_MOST_WORDS : mg "MOST_WORDS" = some u_MOST_WORDS
  v_MOST_WORDS : RelV x_MOST_WORDS u_MOST_WORDS
  r_MOST_WORDS : ∀ H, Rp K H x_MOST_WORDS c_MOST_WORDS
  u_TONGUE : Value
  x_TONGUE : V
  g_TONGUE : mg "TONGUE" = some u_TONGUE
  v_TONGUE : RelV x_TONGUE u_TONGUE
  r_TONGUE : ∀ H, Rp K H x_TONGUE c_TONGUE
  u_MANY_BOXES : Addr
  g_MANY_BOXES : mg "MANY_BOXES" = some (.ref u_MANY_BOXES)
  k_MANY_BOXES : KDk w K u_MANY_BOXES k_MANY_BOXES
  C_Placing : Addr
  cl_Placing : clsA K "Placing" = some C_Placing
  ck_Placing : Cls K C_Placing
  g_Placing : mg "Placing" = some (.ref C_Placing)
  mk_Placing : Mk K C_Placing a_Placing___init__
  me_Placing_fresh_name : Meth K C_Placing "fresh_name" a_Placing_fresh_name
  me_Placing_tally : Meth K C_Placing "tally" a_Placing_tally
  me_Placing_put_leaving : Meth K C_Placing "put_leaving" a_Placing_put_leaving
  me_Placing_put_row : Meth K C_Placing "put_row" a_Placing_put_row
  me_Placing_put_word : Meth K C_Placing "put_word" a_Placing_put_word
  me_Placing_put_call : Meth K C_Placing "put_call" a_Placing_put_call
  na_Placing_names_made : NoAttr K C_Placing "names_made"
  na_Placing_standing : NoAttr K C_Placing "standing"
  na_Placing_whole : NoAttr K C_Placing "whole"
  na_Placing_words_made : NoAttr K C_Placing "words_made"
  C_NoAnswer : Addr
  cl_NoAnswer : clsA K "NoAnswer" = some C_NoAnswer
  g_NoAnswer : mg "NoAnswer" = some (.ref C_NoAnswer)
  C_NoCode : Addr
  cl_NoCode : clsA K "NoCode" = some C_NoCode
  g_NoCode : mg "NoCode" = some (.ref C_NoCode)
  C_NoRow : Addr
  cl_NoRow : clsA K "NoRow" = some C_NoRow
  g_NoRow : mg "NoRow" = some (.ref C_NoRow)
  C_NoText : Addr
  cl_NoText : clsA K "NoText" = some C_NoText
  g_NoText : mg "NoText" = some (.ref C_NoText)
  C_NoTurn : Addr
  cl_NoTurn : clsA K "NoTurn" = some C_NoTurn
  g_NoTurn : mg "NoTurn" = some (.ref C_NoTurn)
  C_TooLong : Addr
  cl_TooLong : clsA K "TooLong" = some C_TooLong
  g_TooLong : mg "TooLong" = some (.ref C_TooLong)
  C_WipeError : Addr
  cl_WipeError : clsA K "WipeError" = some C_WipeError
  g_WipeError : mg "WipeError" = some (.ref C_WipeError)
  ec_TooLong : ExcC K C_TooLong
  ex_TooLong : PySem.W.excIn K C_TooLong [.type "ValueError", .type "Exception", .type "BaseException", .type "object"] "ValueError.__new__" = true
  kp_TooLong : PySem.W.keepIn K (.ref C_TooLong) = true
  sb_TooLong : PySem.W.subIn K (.ref C_TooLong) (.type "BaseException") = some true
  ty_TooLong : PySem.W.typeIn K (.ref C_TooLong) = some (.type "type")
  h_0 : hitB K (.ref C_WipeError) [("TooLong", true)] = true
  ki_0 : PySem.W.kitOne K (.ref C_TooLong) (.ref C_NoAnswer) = some false
  ki_1 : PySem.W.kitOne K (.ref C_TooLong) (.ref C_NoCode) = some false
  ki_2 : PySem.W.kitOne K (.ref C_TooLong) (.ref C_NoRow) = some false
  ki_3 : PySem.W.kitOne K (.ref C_TooLong) (.ref C_NoTurn) = some false
  ki_4 : PySem.W.kitOne K (.ref C_TooLong) (.ref C_TooLong) = some true
  ki_5 : PySem.W.kitOne K (.ref C_TooLong) (.type "ValueError") = some true
  ki_6 : PySem.W.kitOne K (.ref C_TooLong) (.ref C_NoText) = some false
section
variable {P : Program} {w : World} {K : Frag} {mg : Str → Option Value} {base : Heap}
theorem ok_is_name (T : Tx w K mg) : FnOk P w K mg base CX0 1 T.a_is_name T.d_is_name ["thing"] (spF K 1 f_is_name) := by
  have sc := sc_is_name
  refine fn_J T.F_is_name sc rfl rfl (by decide) fun cdv A outer s H E hr => ?_
  exact (jss_cons (js_if (PW.pt (jw_or (jt_not (jt_val (je_isi (T := "str") (T' := "str") (je_var (i := 0) rfl (by first | exact Or.inl rfl | exact Or.inr (Or.inl rfl) | exact Or.inr (Or.inr rfl))) (by rfl) T.z_isinstance (by rfl) T.z_str (by decide +kernel)))) (jw_or (jt_not (jt_chain op_leA op_leA ob_ord os_ord je_int (je_callB call_lenA cs_len (by rfl) T.z_len (by decide +kernel) (ja_c (jc_sh (je_var (i := 0) rfl (by first | exact Or.inl rfl | exact Or.inr (Or.inl rfl) | exact Or.inr (Or.inr rfl)))) ja_nil)) (je_glob (by rfl) T.g_LONGEST T.v_LONGEST T.r_LONGEST))) (jw_or1 (jt_cmp op_inA os_in (je_var (i := 0) rfl (by first | exact Or.inl rfl | exact Or.inr (Or.inl rfl) | exact Or.inr (Or.inr rfl))) (je_glob (by rfl) T.g_TONGUE T.v_TONGUE T.r_TONGUE) (by rfl))))))
    (jss_one (js_ret (jc_sh je_bl)))
    jss_nil)
    (jss_one (js_ret (jc_sh (je_callB (cr_all rfl) (cs_bools (f := fun bs => bs.all id)) (by rfl) T.z_all (by decide +kernel) (ja_c (jc_sh (je_fr (jo_comp (own := [("sign", 1)]) (by decide) rfl sc.nd (ji_any (je_var (i := 0) rfl (by first | exact Or.inl rfl | exact Or.inr (Or.inl rfl) | exact Or.inr (Or.inr rfl)))) (blkOk_by (N := N_is_name) (sc := defScope s_is_name) (by decide +kernel)) (fun _ _ _ _ _ => (jg_name (i := 1) sc.nd rfl (by first | exact Or.inl rfl | exact Or.inr rfl))) (fun _ _ _ _ _ => jts_nil) (fun _ _ _ _ _ => (je_cmp op_inA os_in (je_var (i := 1) rfl (by first | exact Or.inl rfl | exact Or.inr (Or.inl rfl) | exact Or.inr (Or.inr rfl))) (je_glob (by rfl) T.g_LETTERS_names T.v_LETTERS_names T.r_LETTERS_names) (by rfl)))))) ja_nil))))))
theorem ok_first_name (T : Tx w K mg) : FnOk P w K mg base CX0 1 T.a_first_name T.d_first_name ["box"] (spF K 1 f_first_name) := by
  have sc := sc_first_name
  refine fn_J T.F_first_name sc rfl rfl (by decide) fun cdv A outer s H E hr => ?_
  exact (jss_one (js_ret (jc_sh (je_ix (je_m1 PySem.F.slot_str_split PySem.F.type_str_split mt_split ms_split (je_var (i := 0) rfl (by first | exact Or.inl rfl | exact Or.inr (Or.inl rfl) | exact Or.inr (Or.inr rfl))) je_str) je_int (fun _ _ => rfl)))))
theorem ok_rows_in (T : Tx w K mg) : FnOk P w K mg base CX0 1 T.a_rows_in T.d_rows_in ["word"] (spF K 1 f_rows_in) := by
  have sc := sc_rows_in
  refine fn_J T.F_rows_in sc rfl rfl (by decide) fun cdv A outer s H E hr => ?_
  exact (jss_cons (js_if (jt_cmp (op_eqA hr.units) os_eq (je_ix (je_var (i := 0) rfl (by first | exact Or.inl rfl | exact Or.inr (Or.inl rfl) | exact Or.inr (Or.inr rfl))) je_int (fun _ _ => rfl)) je_str (nomark _))
    (jss_one (js_ret (jc_sh (je_ix (je_var (i := 0) rfl (by first | exact Or.inl rfl | exact Or.inr (Or.inl rfl) | exact Or.inr (Or.inr rfl))) je_int (fun _ _ => rfl)))))
    jss_nil)
    (jss_cons (js_if (jt_cmp (op_eqA hr.units) os_eq (je_ix (je_var (i := 0) rfl (by first | exact Or.inl rfl | exact Or.inr (Or.inl rfl) | exact Or.inr (Or.inr rfl))) je_int (fun _ _ => rfl)) je_str (nomark _))
    (jss_one (js_ret (jc_sh (je_tup (ja_c (jc_sh (je_ix (je_var (i := 0) rfl (by first | exact Or.inl rfl | exact Or.inr (Or.inl rfl) | exact Or.inr (Or.inr rfl))) je_int (fun _ _ => rfl))) ja_nil)))))
    jss_nil)
    (jss_one (js_ret (jc_sh (je_tup ja_nil))))))
theorem ok_def_of (T : Tx w K mg) : FnOk P w K mg base CX0 1 T.a_def_of T.d_def_of ["program", "name"] (spF K 2 f_def_of) := by
  have sc := sc_def_of
  refine fn_J T.F_def_of sc rfl rfl (by decide) fun cdv A outer s H E hr => ?_
  exact (jss_cons (js_for PassesOwn.never rfl (ji_any (je_ix (je_var (i := 0) rfl (by first | exact Or.inl rfl | exact Or.inr (Or.inl rfl) | exact Or.inr (Or.inr rfl))) je_int (fun _ _ => rfl))) (jg_name (i := 2) sc.nd rfl (by first | exact Or.inl rfl | exact Or.inr rfl))
    (jss_one (js_if (jt_cmp (op_eqA hr.units) os_eq (je_ix (je_var (i := 2) rfl (by first | exact Or.inl rfl | exact Or.inr (Or.inl rfl) | exact Or.inr (Or.inr rfl))) je_int (fun _ _ => rfl)) (je_var (i := 1) rfl (by first | exact Or.inl rfl | exact Or.inr (Or.inl rfl) | exact Or.inr (Or.inr rfl))) (nomark _))
    (jss_one (js_ret (jc_sh (je_var (i := 2) rfl (by first | exact Or.inl rfl | exact Or.inr (Or.inl rfl) | exact Or.inr (Or.inr rfl))))))
    jss_nil)))
    (jss_one (js_ret (jc_sh je_non))))
theorem ok_boxes_of (T : Tx w K mg) : FnOk P w K mg base CX0 1 T.a_boxes_of T.d_boxes_of ["word"] (spF K 1 f_boxes_of) := by
  have sc := sc_boxes_of
  refine fn_J T.F_boxes_of sc rfl rfl (by decide) fun cdv A outer s H E hr => ?_
  exact (jss_cons (js_if (jt_cmp (op_eqA hr.units) os_eq (je_ix (je_var (i := 0) rfl (by first | exact Or.inl rfl | exact Or.inr (Or.inl rfl) | exact Or.inr (Or.inr rfl))) je_int (fun _ _ => rfl)) je_str (nomark _))
    (jss_one (js_ret (jc_sh (je_bin op_addA os_add (je_ix (je_var (i := 0) rfl (by first | exact Or.inl rfl | exact Or.inr (Or.inl rfl) | exact Or.inr (Or.inr rfl))) je_int (fun _ _ => rfl)) (je_ix (je_var (i := 0) rfl (by first | exact Or.inl rfl | exact Or.inr (Or.inl rfl) | exact Or.inr (Or.inr rfl))) je_int (fun _ _ => rfl))))))
    jss_nil)
    (jss_cons (js_if (jt_cmp (op_eqA hr.units) os_eq (je_ix (je_var (i := 0) rfl (by first | exact Or.inl rfl | exact Or.inr (Or.inl rfl) | exact Or.inr (Or.inr rfl))) je_int (fun _ _ => rfl)) je_str (nomark _))
    (jss_one (js_ret (jc_sh (je_ix (je_var (i := 0) rfl (by first | exact Or.inl rfl | exact Or.inr (Or.inl rfl) | exact Or.inr (Or.inr rfl))) je_int (fun _ _ => rfl)))))
    jss_nil)
    (jss_cons (js_if (jt_kin (je_ix (je_var (i := 0) rfl (by first | exact Or.inl rfl | exact Or.inr (Or.inl rfl) | exact Or.inr (Or.inr rfl))) je_int (fun _ _ => rfl)) (by rfl) T.g_MANY_BOXES T.k_MANY_BOXES)
    (jss_one (js_ret (jc_sh (je_slice (je_var (i := 0) rfl (by first | exact Or.inl rfl | exact Or.inr (Or.inl rfl) | exact Or.inr (Or.inr rfl))) (jp_some je_int) jp_none))))
    jss_nil)
    (jss_cons (js_if (jt_cmp op_inA os_in (je_ix (je_var (i := 0) rfl (by first | exact Or.inl rfl | exact Or.inr (Or.inl rfl) | exact Or.inr (Or.inr rfl))) je_int (fun _ _ => rfl)) (je_tup (ja_c (jc_sh je_str) (ja_c (jc_sh je_str) ja_nil))) (by rfl))
    (jss_one (js_ret (jc_sh (je_slice (je_var (i := 0) rfl (by first | exact Or.inl rfl | exact Or.inr (Or.inl rfl) | exact Or.inr (Or.inr rfl))) (jp_some je_int) (jp_some je_int)))))
    jss_nil)
    (jss_one (js_ret (jc_sh (je_tup ja_nil))))))))
theorem ok_G5 (T : Tx w K mg) : ∀ k : Nat, FnOk P w K mg base CX0 (1 + k) T.a_boxes_in T.d_boxes_in ["row"] (spF K 1 (f_G5 k 0))
  | 0 => fn_bad rfl
  | k + 1 => by
    have ih := ok_G5 T k
    exact (by
      have sc := sc_boxes_in
      refine fn_J T.F_boxes_in sc rfl rfl (by decide) fun cdv A outer s H E hr => ?_
      exact (jss_cons (js_set (i := 1) sc.nd rfl (by first | exact Or.inl rfl | exact Or.inr rfl) (jc_lo (jl_new (jo_lst ja_nil))))
    (jss_cons (js_for PassesOwn.never rfl (ji_any (je_var (i := 0) rfl (by first | exact Or.inl rfl | exact Or.inr (Or.inl rfl) | exact Or.inr (Or.inr rfl)))) (jg_name (i := 2) sc.nd rfl (by first | exact Or.inl rfl | exact Or.inr rfl))
    (jss_cons (js_ext (jl_var (i := 1) rfl (by first | exact Or.inl rfl | exact Or.inr (Or.inl rfl) | exact Or.inr (Or.inr rfl))) (jc_sh (je_cell (jc_call (ok_boxes_of T) rfl (hr.mono (Nat.le_trans (m := 1) (by decide) (Nat.le_add_right _ _))) (by rfl) T.g_boxes_of T.F_boxes_of.kp T.b_boxes_of (ja_c (jc_sh (je_var (i := 2) rfl (by first | exact Or.inl rfl | exact Or.inr (Or.inl rfl) | exact Or.inr (Or.inr rfl)))) ja_nil)))) (PE0 := (pe_bm PySem.F.plainAttrs_list PySem.F.slot_list_extend PySem.F.type_list_extend mt_extA (jl_var (i := 1) rfl (by first | exact Or.inl rfl | exact Or.inr (Or.inl rfl) | exact Or.inr (Or.inr rfl))) (pa_cons (jc_sh (je_cell (jc_call (ok_boxes_of T) rfl (hr.mono (Nat.le_trans (m := 1) (by decide) (Nat.le_add_right _ _))) (by rfl) T.g_boxes_of T.F_boxes_of.kp T.b_boxes_of (ja_c (jc_sh (je_var (i := 2) rfl (by first | exact Or.inl rfl | exact Or.inr (Or.inl rfl) | exact Or.inr (Or.inr rfl)))) ja_nil)))) pa_nil))))
    (jss_one (js_for PassesOwn.never rfl (ji_any (je_cell (jc_call (ok_rows_in T) rfl (hr.mono (Nat.le_trans (m := 1) (by decide) (Nat.le_add_right _ _))) (by rfl) T.g_rows_in T.F_rows_in.kp T.b_rows_in (ja_c (jc_sh (je_var (i := 2) rfl (by first | exact Or.inl rfl | exact Or.inr (Or.inl rfl) | exact Or.inr (Or.inr rfl)))) ja_nil)))) (jg_name (i := 3) sc.nd rfl (by first | exact Or.inl rfl | exact Or.inr rfl))
    (jss_one (js_ext (jl_var (i := 1) rfl (by first | exact Or.inl rfl | exact Or.inr (Or.inl rfl) | exact Or.inr (Or.inr rfl))) (jc_sh (je_cell (jc_call ih rfl hr (by rfl) T.g_boxes_in T.F_boxes_in.kp T.b_boxes_in (ja_c (jc_sh (je_var (i := 3) rfl (by first | exact Or.inl rfl | exact Or.inr (Or.inl rfl) | exact Or.inr (Or.inr rfl)))) ja_nil)))) (PE0 := (pe_bm PySem.F.plainAttrs_list PySem.F.slot_list_extend PySem.F.type_list_extend mt_extA (jl_var (i := 1) rfl (by first | exact Or.inl rfl | exact Or.inr (Or.inl rfl) | exact Or.inr (Or.inr rfl))) (pa_cons (jc_sh (je_cell (jc_call ih rfl hr (by rfl) T.g_boxes_in T.F_boxes_in.kp T.b_boxes_in (ja_c (jc_sh (je_var (i := 3) rfl (by first | exact Or.inl rfl | exact Or.inr (Or.inl rfl) | exact Or.inr (Or.inr rfl)))) ja_nil)))) pa_nil)))))))))
    (jss_one (js_ret (jc_sh (je_callTy call_tuple_of cs_tuple (by rfl) T.z_tuple (by decide +kernel) (ja_c (jc_sh (je_sortSet rfl (by rfl) T.z_sorted (by decide +kernel) (by rfl) T.z_set (by decide +kernel) (jc_lo (jl_var (i := 1) rfl (by first | exact Or.inl rfl | exact Or.inr (Or.inl rfl) | exact Or.inr (Or.inr rfl)))))) ja_nil))))))))
theorem ok_G6 (T : Tx w K mg) : ∀ k : Nat, FnOk P w K mg base CX0 (15 + k) T.a_names_in T.d_names_in ["row"] (spF K 1 (f_G6 k 0))
  | 0 => fn_bad rfl
  | k + 1 => by
    have ih := ok_G6 T k
    exact (by
      have sc := sc_names_in
      refine fn_J T.F_names_in sc rfl rfl (by decide) fun cdv A outer s H E hr => ?_
      exact (jss_cons (js_set (i := 1) sc.nd rfl (by first | exact Or.inl rfl | exact Or.inr rfl) (jc_lo jl_dnew))
    (jss_cons (js_for PassesOwn.never rfl (ji_any (je_cell (jc_call ((ok_G5 T 14)) rfl (hr.mono (Nat.le_trans (m := 15) (by decide) (Nat.le_add_right _ _))) (by rfl) T.g_boxes_in T.F_boxes_in.kp T.b_boxes_in (ja_c (jc_sh (je_var (i := 0) rfl (by first | exact Or.inl rfl | exact Or.inr (Or.inl rfl) | exact Or.inr (Or.inr rfl)))) ja_nil)))) (jg_name (i := 2) sc.nd rfl (by first | exact Or.inl rfl | exact Or.inr rfl))
    (jss_one (js_dput hr.units (jl_var (i := 1) rfl (by first | exact Or.inl rfl | exact Or.inr (Or.inl rfl) | exact Or.inr (Or.inr rfl))) (je_cell (jc_call (ok_first_name T) rfl (hr.mono (Nat.le_trans (m := 15) (by decide) (Nat.le_add_right _ _))) (by rfl) T.g_first_name T.F_first_name.kp T.b_first_name (ja_c (jc_sh (je_var (i := 2) rfl (by first | exact Or.inl rfl | exact Or.inr (Or.inl rfl) | exact Or.inr (Or.inr rfl)))) ja_nil))) (jc_sh je_bl))))
    (jss_cons (js_for PassesOwn.never rfl (ji_any (je_var (i := 0) rfl (by first | exact Or.inl rfl | exact Or.inr (Or.inl rfl) | exact Or.inr (Or.inr rfl)))) (jg_name (i := 3) sc.nd rfl (by first | exact Or.inl rfl | exact Or.inr rfl))
    (jss_cons (js_if (jt_cmp (op_eqA hr.units) os_eq (je_ix (je_var (i := 3) rfl (by first | exact Or.inl rfl | exact Or.inr (Or.inl rfl) | exact Or.inr (Or.inr rfl))) je_int (fun _ _ => rfl)) je_str (nomark _))
    (jss_one (js_dput hr.units (jl_var (i := 1) rfl (by first | exact Or.inl rfl | exact Or.inr (Or.inl rfl) | exact Or.inr (Or.inr rfl))) (je_ix (je_var (i := 3) rfl (by first | exact Or.inl rfl | exact Or.inr (Or.inl rfl) | exact Or.inr (Or.inr rfl))) je_int (fun _ _ => rfl)) (jc_sh je_bl)))
    jss_nil)
    (jss_one (js_for PassesOwn.never rfl (ji_any (je_cell (jc_call (ok_rows_in T) rfl (hr.mono (Nat.le_trans (m := 15) (by decide) (Nat.le_add_right _ _))) (by rfl) T.g_rows_in T.F_rows_in.kp T.b_rows_in (ja_c (jc_sh (je_var (i := 3) rfl (by first | exact Or.inl rfl | exact Or.inr (Or.inl rfl) | exact Or.inr (Or.inr rfl)))) ja_nil)))) (jg_name (i := 4) sc.nd rfl (by first | exact Or.inl rfl | exact Or.inr rfl))
    (jss_one (js_upd (jl_var (i := 1) rfl (by first | exact Or.inl rfl | exact Or.inr (Or.inl rfl) | exact Or.inr (Or.inr rfl))) (jl_cell (jc_call ih rfl hr (by rfl) T.g_names_in T.F_names_in.kp T.b_names_in (ja_c (jc_sh (je_var (i := 4) rfl (by first | exact Or.inl rfl | exact Or.inr (Or.inl rfl) | exact Or.inr (Or.inr rfl)))) ja_nil))) (PE0 := (pe_bm PySem.F.plainAttrs_dict PySem.F.slot_dict_update PySem.F.type_dict_update mt_upd (jl_var (i := 1) rfl (by first | exact Or.inl rfl | exact Or.inr (Or.inl rfl) | exact Or.inr (Or.inr rfl))) (pa_cons (jl_cell (jc_call ih rfl hr (by rfl) T.g_names_in T.F_names_in.kp T.b_names_in (ja_c (jc_sh (je_var (i := 4) rfl (by first | exact Or.inl rfl | exact Or.inr (Or.inl rfl) | exact Or.inr (Or.inr rfl)))) ja_nil))) pa_nil)))))))))
    (jss_one (js_ret (jc_lo (jl_var (i := 1) rfl (by first | exact Or.inl rfl | exact Or.inr (Or.inl rfl) | exact Or.inr (Or.inr rfl))))))))))
theorem ok_names_within (T : Tx w K mg) : FnOk P w K mg base CX0 1 T.a_names_within T.d_names_within ["thing"] (spF K 1 f_names_within) := by
  have sc := sc_names_within
  refine fn_J T.F_names_within sc rfl rfl (by decide) fun cdv A outer s H E hr => ?_
  exact (jss_cons (js_set (i := 1) sc.nd rfl (by first | exact Or.inl rfl | exact Or.inr rfl) (jc_lo jl_dnew))
    (jss_cons (js_set (i := 2) sc.nd rfl (by first | exact Or.inl rfl | exact Or.inr rfl) (jc_lo (jl_new (jo_lst (ja_c (jc_sh (je_var (i := 0) rfl (by first | exact Or.inl rfl | exact Or.inr (Or.inl rfl) | exact Or.inr (Or.inr rfl)))) ja_nil)))))
    (jss_cons (js_while 1000000 PassesOwn.never (jt_cmpC (op_neA hr.units) os_ne (jc_lo (jl_var (i := 2) rfl (by first | exact Or.inl rfl | exact Or.inr (Or.inl rfl) | exact Or.inr (Or.inr rfl)))) (jc_sh (je_lst ja_nil)) (nomark _))
    (jss_cons (js_set (i := 3) sc.nd rfl (by first | exact Or.inl rfl | exact Or.inr rfl) (jc_sh (je_cell (jc_pop0 (PE0 := (pe_bm0 PySem.F.plainAttrs_list PySem.F.slot_list_pop PySem.F.type_list_pop mt_pop (jl_var (i := 2) rfl (by first | exact Or.inl rfl | exact Or.inr (Or.inl rfl) | exact Or.inr (Or.inr rfl)))))))))
    (jss_one (js_if (jt_val (je_isi (T := "tuple") (T' := "tuple") (je_var (i := 3) rfl (by first | exact Or.inl rfl | exact Or.inr (Or.inl rfl) | exact Or.inr (Or.inr rfl))) (by rfl) T.z_isinstance (by rfl) T.z_tuple (by decide +kernel)))
    (jss_one (js_ext (jl_var (i := 2) rfl (by first | exact Or.inl rfl | exact Or.inr (Or.inl rfl) | exact Or.inr (Or.inr rfl))) (jc_sh (je_callTy call_list_of cs_list (by rfl) T.z_list (by decide +kernel) (ja_c (jc_sh (je_var (i := 3) rfl (by first | exact Or.inl rfl | exact Or.inr (Or.inl rfl) | exact Or.inr (Or.inr rfl)))) ja_nil))) (PE0 := (pe_bm PySem.F.plainAttrs_list PySem.F.slot_list_extend PySem.F.type_list_extend mt_extA (jl_var (i := 2) rfl (by first | exact Or.inl rfl | exact Or.inr (Or.inl rfl) | exact Or.inr (Or.inr rfl))) (pa_cons (jc_sh (je_callTy call_list_of cs_list (by rfl) T.z_list (by decide +kernel) (ja_c (jc_sh (je_var (i := 3) rfl (by first | exact Or.inl rfl | exact Or.inr (Or.inl rfl) | exact Or.inr (Or.inr rfl)))) ja_nil))) pa_nil)))))
    (jss_one (js_if (jt_val (je_isi (T := "str") (T' := "str") (je_var (i := 3) rfl (by first | exact Or.inl rfl | exact Or.inr (Or.inl rfl) | exact Or.inr (Or.inr rfl))) (by rfl) T.z_isinstance (by rfl) T.z_str (by decide +kernel)))
    (jss_one (js_for PassesOwn.never rfl (ji_any (je_m1 PySem.F.slot_str_split PySem.F.type_str_split mt_split ms_split (je_var (i := 3) rfl (by first | exact Or.inl rfl | exact Or.inr (Or.inl rfl) | exact Or.inr (Or.inr rfl))) je_str)) (jg_name (i := 4) sc.nd rfl (by first | exact Or.inl rfl | exact Or.inr rfl))
    (jss_one (js_dput hr.units (jl_var (i := 1) rfl (by first | exact Or.inl rfl | exact Or.inr (Or.inl rfl) | exact Or.inr (Or.inr rfl))) (je_var (i := 4) rfl (by first | exact Or.inl rfl | exact Or.inr (Or.inl rfl) | exact Or.inr (Or.inr rfl))) (jc_sh je_bl)))))
    jss_nil))))))
    (jss_one (js_ret (jc_lo (jl_var (i := 1) rfl (by first | exact Or.inl rfl | exact Or.inr (Or.inl rfl) | exact Or.inr (Or.inr rfl)))))))))
theorem ok_name_by (T : Tx w K mg) : FnOk P w K mg base CX0 1 T.a_name_by T.d_name_by ["number"] (spF K 1 f_name_by) := by
  have sc := sc_name_by
  refine fn_J T.F_name_by sc rfl rfl (by decide) fun cdv A outer s H E hr => ?_
  exact (jss_cons (js_set (i := 1) sc.nd rfl (by first | exact Or.inl rfl | exact Or.inr rfl) (jc_sh je_str))
    (jss_cons (js_for PassesOwn.never rfl (ji_range1 (by rfl) T.z_range je_int) (jg_name (i := 2) sc.nd rfl (by first | exact Or.inl rfl | exact Or.inr rfl))
    (jss_cons (js_set (i := 1) sc.nd rfl (by first | exact Or.inl rfl | exact Or.inr rfl) (jc_sh (je_bin op_addA os_add (je_ix (je_glob (by rfl) T.g_LETTERS_inplace T.v_LETTERS_inplace T.r_LETTERS_inplace) (je_bin op_mod os_mod (je_var (i := 0) rfl (by first | exact Or.inl rfl | exact Or.inr (Or.inl rfl) | exact Or.inr (Or.inr rfl))) (je_callB call_lenA cs_len (by rfl) T.z_len (by decide +kernel) (ja_c (jc_sh (je_glob (by rfl) T.g_LETTERS_inplace T.v_LETTERS_inplace T.r_LETTERS_inplace)) ja_nil))) (fun _ _ => rfl)) (je_var (i := 1) rfl (by first | exact Or.inl rfl | exact Or.inr (Or.inl rfl) | exact Or.inr (Or.inr rfl))))))
    (jss_one (js_set (i := 0) sc.nd rfl (by first | exact Or.inl rfl | exact Or.inr rfl) (jc_sh (je_bin op_fdivW os_div (je_var (i := 0) rfl (by first | exact Or.inl rfl | exact Or.inr (Or.inl rfl) | exact Or.inr (Or.inr rfl))) (je_callB call_lenA cs_len (by rfl) T.z_len (by decide +kernel) (ja_c (jc_sh (je_glob (by rfl) T.g_LETTERS_inplace T.v_LETTERS_inplace T.r_LETTERS_inplace)) ja_nil))))))))
    (jss_one (js_ret (jc_sh (je_bin op_addA os_add je_str (je_var (i := 1) rfl (by first | exact Or.inl rfl | exact Or.inr (Or.inl rfl) | exact Or.inr (Or.inr rfl)))))))))
theorem ok_renamed (T : Tx w K mg) : FnOk P w K mg base CX0 2 T.a_renamed T.d_renamed ["boxes", "names"] (spF K 2 f_renamed) := by
  have sc := sc_renamed
  refine fn_J T.F_renamed sc rfl rfl (by decide) fun cdv A outer s H E hr => ?_
  exact (jss_cons (js_set (i := 2) sc.nd rfl (by first | exact Or.inl rfl | exact Or.inr rfl) (jc_lo (jl_new (jo_lst ja_nil))))
    (jss_cons (js_for PassesOwn.never rfl (ji_any (je_var (i := 0) rfl (by first | exact Or.inl rfl | exact Or.inr (Or.inl rfl) | exact Or.inr (Or.inr rfl)))) (jg_name (i := 3) sc.nd rfl (by first | exact Or.inl rfl | exact Or.inr rfl))
    (jss_cons (js_set (i := 4) sc.nd rfl (by first | exact Or.inl rfl | exact Or.inr rfl) (jc_sh (je_cell (jc_call (ok_first_name T) rfl (hr.mono (by decide)) (by rfl) T.g_first_name T.F_first_name.kp T.b_first_name (ja_c (jc_sh (je_var (i := 3) rfl (by first | exact Or.inl rfl | exact Or.inr (Or.inl rfl) | exact Or.inr (Or.inr rfl)))) ja_nil)))))
    (jss_one (js_app (jl_var (i := 2) rfl (by first | exact Or.inl rfl | exact Or.inr (Or.inl rfl) | exact Or.inr (Or.inr rfl))) (jc_sh (je_bin op_addA os_add (je_cell (jc_dget2 hr.units (jl_var (i := 1) rfl (by first | exact Or.inl rfl | exact Or.inr (Or.inl rfl) | exact Or.inr (Or.inr rfl))) (je_var (i := 4) rfl (by first | exact Or.inl rfl | exact Or.inr (Or.inl rfl) | exact Or.inr (Or.inr rfl))) (jc_sh (je_var (i := 4) rfl (by first | exact Or.inl rfl | exact Or.inr (Or.inl rfl) | exact Or.inr (Or.inr rfl)))) ⟨rfl, rfl, rfl, rfl⟩)) (je_slice (je_var (i := 3) rfl (by first | exact Or.inl rfl | exact Or.inr (Or.inl rfl) | exact Or.inr (Or.inr rfl))) (jp_some (je_callB call_lenA cs_len (by rfl) T.z_len (by decide +kernel) (ja_c (jc_sh (je_var (i := 4) rfl (by first | exact Or.inl rfl | exact Or.inr (Or.inl rfl) | exact Or.inr (Or.inr rfl)))) ja_nil))) jp_none))) (PE0 := (pe_bm PySem.F.plainAttrs_list PySem.F.slot_list_append PySem.F.type_list_append mt_append (jl_var (i := 2) rfl (by first | exact Or.inl rfl | exact Or.inr (Or.inl rfl) | exact Or.inr (Or.inr rfl))) (pa_cons (jc_sh (je_bin op_addA os_add (je_cell (jc_dget2 hr.units (jl_var (i := 1) rfl (by first | exact Or.inl rfl | exact Or.inr (Or.inl rfl) | exact Or.inr (Or.inr rfl))) (je_var (i := 4) rfl (by first | exact Or.inl rfl | exact Or.inr (Or.inl rfl) | exact Or.inr (Or.inr rfl))) (jc_sh (je_var (i := 4) rfl (by first | exact Or.inl rfl | exact Or.inr (Or.inl rfl) | exact Or.inr (Or.inr rfl)))) ⟨rfl, rfl, rfl, rfl⟩)) (je_slice (je_var (i := 3) rfl (by first | exact Or.inl rfl | exact Or.inr (Or.inl rfl) | exact Or.inr (Or.inr rfl))) (jp_some (je_callB call_lenA cs_len (by rfl) T.z_len (by decide +kernel) (ja_c (jc_sh (je_var (i := 4) rfl (by first | exact Or.inl rfl | exact Or.inr (Or.inl rfl) | exact Or.inr (Or.inr rfl)))) ja_nil))) jp_none))) pa_nil)))))))
    (jss_one (js_ret (jc_sh (je_tupOf (by rfl) T.z_tuple (by decide +kernel) (jc_lo (jl_var (i := 2) rfl (by first | exact Or.inl rfl | exact Or.inr (Or.inl rfl) | exact Or.inr (Or.inr rfl))))))))))
theorem ok_Placing___init__ (T : Tx w K mg) : FnOk P w K mg base CX0 2 T.a_Placing___init__ T.d_Placing___init__ ["self", "program"] (spF K 2 f_Placing___init__) := by
  have sc := sc_Placing___init__
  refine fn_J T.F_Placing___init__ sc rfl rfl (by decide) fun cdv A outer s H E hr => ?_
  exact (jss_cons (js_setF T.cl_Placing T.ck_Placing T.na_Placing_whole (jl_var (i := 0) rfl (by first | exact Or.inl rfl | exact Or.inr (Or.inl rfl) | exact Or.inr (Or.inr rfl))) (jc_sh (je_var (i := 1) rfl (by first | exact Or.inl rfl | exact Or.inr (Or.inl rfl) | exact Or.inr (Or.inr rfl)))))
    (jss_cons (js_setF T.cl_Placing T.ck_Placing T.na_Placing_standing (jl_var (i := 0) rfl (by first | exact Or.inl rfl | exact Or.inr (Or.inl rfl) | exact Or.inr (Or.inr rfl))) (jc_lo (jl_cell (jc_call (ok_names_within T) rfl (hr.mono (by decide)) (by rfl) T.g_names_within T.F_names_within.kp T.b_names_within (ja_c (jc_sh (je_var (i := 1) rfl (by first | exact Or.inl rfl | exact Or.inr (Or.inl rfl) | exact Or.inr (Or.inr rfl)))) ja_nil)))))
    (jss_cons (js_setF T.cl_Placing T.ck_Placing T.na_Placing_names_made (jl_var (i := 0) rfl (by first | exact Or.inl rfl | exact Or.inr (Or.inl rfl) | exact Or.inr (Or.inr rfl))) (jc_sh je_int))
    (jss_one (js_setF T.cl_Placing T.ck_Placing T.na_Placing_words_made (jl_var (i := 0) rfl (by first | exact Or.inl rfl | exact Or.inr (Or.inl rfl) | exact Or.inr (Or.inr rfl))) (jc_sh je_int))))))
theorem ok_Placing_fresh_name (T : Tx w K mg) : FnOk P w K mg base CX0 2 T.a_Placing_fresh_name T.d_Placing_fresh_name ["self"] (spF K 1 f_Placing_fresh_name) := by
  have sc := sc_Placing_fresh_name
  refine fn_J T.F_Placing_fresh_name sc rfl rfl (by decide) fun cdv A outer s H E hr => ?_
  exact (jss_cons (js_set (i := 1) sc.nd rfl (by first | exact Or.inl rfl | exact Or.inr rfl) (jc_sh je_str))
    (jss_cons (js_while 1000000 PassesOwn.never (PW.pt (jw_or (jt_not (jt_val (je_cell (jc_call (ok_is_name T) rfl (hr.mono (by decide)) (by rfl) T.g_is_name T.F_is_name.kp T.b_is_name (ja_c (jc_sh (je_var (i := 1) rfl (by first | exact Or.inl rfl | exact Or.inr (Or.inl rfl) | exact Or.inr (Or.inr rfl)))) ja_nil))))) (jw_or1 (jt_din hr.units (je_var (i := 1) rfl (by first | exact Or.inl rfl | exact Or.inr (Or.inl rfl) | exact Or.inr (Or.inr rfl))) (jl_cell (jc_fld T.cl_Placing T.ck_Placing T.na_Placing_standing (jl_var (i := 0) rfl (by first | exact Or.inl rfl | exact Or.inr (Or.inl rfl) | exact Or.inr (Or.inr rfl))))) (by rfl)))))
    (jss_cons (js_set (i := 1) sc.nd rfl (by first | exact Or.inl rfl | exact Or.inr rfl) (jc_sh (je_cell (jc_call (ok_name_by T) rfl (hr.mono (by decide)) (by rfl) T.g_name_by T.F_name_by.kp T.b_name_by (ja_c (jc_sh (je_cell (jc_fld T.cl_Placing T.ck_Placing T.na_Placing_names_made (jl_var (i := 0) rfl (by first | exact Or.inl rfl | exact Or.inr (Or.inl rfl) | exact Or.inr (Or.inr rfl)))))) ja_nil)))))
    (jss_one (js_augF (F := fun i j => i + j) T.cl_Placing T.ck_Placing T.na_Placing_names_made (jl_var (i := 0) rfl (by first | exact Or.inl rfl | exact Or.inr (Or.inl rfl) | exact Or.inr (Or.inr rfl))) in_add))))
    (jss_one (js_ret (jc_sh (je_var (i := 1) rfl (by first | exact Or.inl rfl | exact Or.inr (Or.inl rfl) | exact Or.inr (Or.inr rfl))))))))
theorem ok_Placing_tally (T : Tx w K mg) : FnOk P w K mg base (L2.CX P w) 3 T.a_Placing_tally T.d_Placing_tally ["self", "many"] (spX K 2 f_Placing_tally) := by
  have sc := sc_Placing_tally
  refine fnX_J T.F_Placing_tally sc rfl rfl (by decide) fun cdv A outer s H E hr tk pa => ?_
  exact (jss_cons (js_augFM (F := fun i j => i + j) T.cl_Placing T.ck_Placing T.na_Placing_words_made (jl_var (i := 0) rfl (by first | exact Or.inl rfl | exact Or.inr (Or.inl rfl) | exact Or.inr (Or.inr rfl))) (je_var (i := 1) rfl (by first | exact Or.inl rfl | exact Or.inr (Or.inl rfl) | exact Or.inr (Or.inr rfl))) in_add)
    (jss_one (js_if (jt_cmp op_gtA os_ord (je_cell (jc_fld T.cl_Placing T.ck_Placing T.na_Placing_words_made (jl_var (i := 0) rfl (by first | exact Or.inl rfl | exact Or.inr (Or.inl rfl) | exact Or.inr (Or.inr rfl))))) (je_glob (by rfl) T.g_MOST_WORDS T.v_MOST_WORDS T.r_MOST_WORDS) (nomark _))
    (jss_one (js_raiseG PySem.F.excBase_ValueError T.ex_TooLong T.cl_TooLong T.kp_TooLong (raises_own T.sb_TooLong T.ty_TooLong) rfl tk T.g_TooLong (by rfl)))
    jss_nil)))
theorem ok_Placing_put_leaving (T : Tx w K mg) : FnOk P w K mg base (L2.CX P w) 4 T.a_Placing_put_leaving T.d_Placing_put_leaving ["self", "leaving", "around"] (spX K 3 f_Placing_put_leaving) := by
  have sc := sc_Placing_put_leaving
  refine fnX_J T.F_Placing_put_leaving sc rfl rfl (by decide) fun cdv A outer s H E hr tk pa => ?_
  exact (jss_cons (js_asg (jc_sh (je_var (i := 1) rfl (by first | exact Or.inl rfl | exact Or.inr (Or.inl rfl) | exact Or.inr (Or.inr rfl)))) (jg_tup rfl (jgs_cons (jg_name (i := 4) sc.nd rfl (by first | exact Or.inl rfl | exact Or.inr rfl)) (jgs_cons (jg_name (i := 5) sc.nd rfl (by first | exact Or.inl rfl | exact Or.inr rfl)) jgs_nil))))
    (jss_cons (js_set (i := 3) sc.nd rfl (by first | exact Or.inl rfl | exact Or.inr rfl) (jc_lo (jl_new (jo_cat (jc_sh (je_fr (jo_comp (own := [("result", 6), ("get", 7)]) (by decide) rfl sc.nd (ji_any (je_var (i := 4) rfl (by first | exact Or.inl rfl | exact Or.inr (Or.inl rfl) | exact Or.inr (Or.inr rfl)))) (blkOk_by (N := N_Placing_put_leaving) (sc := defScope s_Placing_put_leaving) (by decide +kernel)) (fun _ _ _ _ _ => (jg_tup rfl (jgs_cons (jg_name (i := 6) sc.nd rfl (by first | exact Or.inl rfl | exact Or.inr rfl)) (jgs_cons (jg_name (i := 7) sc.nd rfl (by first | exact Or.inl rfl | exact Or.inr rfl)) jgs_nil)))) (fun _ _ _ _ _ => jts_nil) (fun _ _ _ _ _ => (je_tup (ja_c (jc_sh je_str) (ja_c (jc_sh (je_var (i := 7) rfl (by first | exact Or.inl rfl | exact Or.inr (Or.inl rfl) | exact Or.inr (Or.inr rfl)))) (ja_c (jc_sh (je_var (i := 6) rfl (by first | exact Or.inl rfl | exact Or.inr (Or.inl rfl) | exact Or.inr (Or.inr rfl)))) ja_nil)))))))) (jc_sh (je_fr (jo_comp (own := [("result", 6), ("get", 7)]) (by decide) rfl sc.nd (ji_any (je_var (i := 4) rfl (by first | exact Or.inl rfl | exact Or.inr (Or.inl rfl) | exact Or.inr (Or.inr rfl)))) (blkOk_by (N := N_Placing_put_leaving) (sc := defScope s_Placing_put_leaving) (by decide +kernel)) (fun _ _ _ _ _ => (jg_tup rfl (jgs_cons (jg_name (i := 6) sc.nd rfl (by first | exact Or.inl rfl | exact Or.inr rfl)) (jgs_cons (jg_name (i := 7) sc.nd rfl (by first | exact Or.inl rfl | exact Or.inr rfl)) jgs_nil)))) (fun _ _ _ _ _ => jts_nil) (fun _ _ _ _ _ => (je_tup (ja_c (jc_sh je_str) (ja_c (jc_sh (je_var (i := 6) rfl (by first | exact Or.inl rfl | exact Or.inr (Or.inl rfl) | exact Or.inr (Or.inr rfl)))) ja_nil)))))))))))
    (jss_cons (js_if (jt_cmp (op_neA hr.units) os_ne (je_var (i := 5) rfl (by first | exact Or.inl rfl | exact Or.inr (Or.inl rfl) | exact Or.inr (Or.inr rfl))) (je_tup ja_nil) (nomark _))
    (jss_one (js_app (jl_var (i := 3) rfl (by first | exact Or.inl rfl | exact Or.inr (Or.inl rfl) | exact Or.inr (Or.inr rfl))) (jc_sh (je_tup (ja_c (jc_sh je_str) (ja_c (jc_sh (je_var (i := 5) rfl (by first | exact Or.inl rfl | exact Or.inr (Or.inl rfl) | exact Or.inr (Or.inr rfl)))) ja_nil)))) (PE0 := (pe_bm PySem.F.plainAttrs_list PySem.F.slot_list_append PySem.F.type_list_append mt_append (jl_var (i := 3) rfl (by first | exact Or.inl rfl | exact Or.inr (Or.inl rfl) | exact Or.inr (Or.inr rfl))) (pa_cons (jc_sh (je_tup (ja_c (jc_sh je_str) (ja_c (jc_sh (je_var (i := 5) rfl (by first | exact Or.inl rfl | exact Or.inr (Or.inl rfl) | exact Or.inr (Or.inr rfl)))) ja_nil)))) pa_nil)))))
    jss_nil)
    (jss_cons (js_app (jl_var (i := 3) rfl (by first | exact Or.inl rfl | exact Or.inr (Or.inl rfl) | exact Or.inr (Or.inr rfl))) (jc_sh (je_tup (ja_c (jc_sh je_str) (ja_c (jc_sh (je_bin op_addA os_add (je_var (i := 2) rfl (by first | exact Or.inl rfl | exact Or.inr (Or.inl rfl) | exact Or.inr (Or.inr rfl))) je_int)) ja_nil)))) (PE0 := (pe_bm PySem.F.plainAttrs_list PySem.F.slot_list_append PySem.F.type_list_append mt_append (jl_var (i := 3) rfl (by first | exact Or.inl rfl | exact Or.inr (Or.inl rfl) | exact Or.inr (Or.inr rfl))) (pa_cons (jc_sh (je_tup (ja_c (jc_sh je_str) (ja_c (jc_sh (je_bin op_addA os_add (je_var (i := 2) rfl (by first | exact Or.inl rfl | exact Or.inr (Or.inl rfl) | exact Or.inr (Or.inr rfl))) je_int)) ja_nil)))) pa_nil))))
    (jss_cons (js_expr (jc_sh (je_cell (jc_methX tk T.cl_Placing T.ck_Placing T.me_Placing_tally (ok_Placing_tally T) rfl (hr.mono (by decide)) T.b_Placing_tally (jl_var (i := 0) rfl (by first | exact Or.inl rfl | exact Or.inr (Or.inl rfl) | exact Or.inr (Or.inr rfl))) (ja_c (jc_sh (je_callBC call_lenA cs_len (by rfl) T.z_len (by decide +kernel) (ja_c (jc_lo (jl_var (i := 3) rfl (by first | exact Or.inl rfl | exact Or.inr (Or.inl rfl) | exact Or.inr (Or.inr rfl)))) ja_nil))) ja_nil)))))
    (jss_one (js_ret (jc_sh (je_seal (jl_var (i := 3) rfl (by first | exact Or.inl rfl | exact Or.inr (Or.inl rfl) | exact Or.inr (Or.inr rfl))))))))))))
theorem ok_G14 (T : Tx w K mg) : ∀ k : Nat, FnOk P w K mg base (L2.CX P w) (29 + k) T.a_Placing_put_row T.d_Placing_put_row ["self", "row", "names", "leaving", "around"] (spX K 5 (f_G14 k 0)) ∧ FnOk P w K mg base (L2.CX P w) (29 + k) T.a_Placing_put_word T.d_Placing_put_word ["self", "word", "names", "leaving", "around"] (spX K 5 (f_G14 k 1)) ∧ FnOk P w K mg base (L2.CX P w) (29 + k) T.a_Placing_put_call T.d_Placing_put_call ["self", "name", "args", "gets"] (spX K 4 (f_G14 k 2))
  | 0 => ⟨fnX_bad rfl, fnX_bad rfl, fnX_bad rfl⟩
  | k + 1 => by
    have ih := ok_G14 T k
    exact ⟨(by
      have sc := sc_Placing_put_row
      refine fnX_J T.F_Placing_put_row sc rfl rfl (by decide) fun cdv A outer s H E hr tk pa => ?_
      exact (jss_cons (js_set (i := 5) sc.nd rfl (by first | exact Or.inl rfl | exact Or.inr rfl) (jc_lo (jl_new (jo_lst ja_nil))))
    (jss_cons (js_for pa rfl (ji_any (je_var (i := 1) rfl (by first | exact Or.inl rfl | exact Or.inr (Or.inl rfl) | exact Or.inr (Or.inr rfl)))) (jg_name (i := 6) sc.nd rfl (by first | exact Or.inl rfl | exact Or.inr rfl))
    (jss_one (js_ext (jl_var (i := 5) rfl (by first | exact Or.inl rfl | exact Or.inr (Or.inl rfl) | exact Or.inr (Or.inr rfl))) (jc_sh (je_cell (jc_methX tk T.cl_Placing T.ck_Placing T.me_Placing_put_word ih.2.1 rfl hr T.b_Placing_put_word (jl_var (i := 0) rfl (by first | exact Or.inl rfl | exact Or.inr (Or.inl rfl) | exact Or.inr (Or.inr rfl))) (ja_c (jc_sh (je_var (i := 6) rfl (by first | exact Or.inl rfl | exact Or.inr (Or.inl rfl) | exact Or.inr (Or.inr rfl)))) (ja_c (jc_lo (jl_var (i := 2) rfl (by first | exact Or.inl rfl | exact Or.inr (Or.inl rfl) | exact Or.inr (Or.inr rfl)))) (ja_c (jc_sh (je_var (i := 3) rfl (by first | exact Or.inl rfl | exact Or.inr (Or.inl rfl) | exact Or.inr (Or.inr rfl)))) (ja_c (jc_sh (je_var (i := 4) rfl (by first | exact Or.inl rfl | exact Or.inr (Or.inl rfl) | exact Or.inr (Or.inr rfl)))) ja_nil))))))) (PE0 := (pe_bm PySem.F.plainAttrs_list PySem.F.slot_list_extend PySem.F.type_list_extend mt_extA (jl_var (i := 5) rfl (by first | exact Or.inl rfl | exact Or.inr (Or.inl rfl) | exact Or.inr (Or.inr rfl))) (pa_cons (jc_sh (je_cell (jc_methX tk T.cl_Placing T.ck_Placing T.me_Placing_put_word ih.2.1 rfl hr T.b_Placing_put_word (jl_var (i := 0) rfl (by first | exact Or.inl rfl | exact Or.inr (Or.inl rfl) | exact Or.inr (Or.inr rfl))) (ja_c (jc_sh (je_var (i := 6) rfl (by first | exact Or.inl rfl | exact Or.inr (Or.inl rfl) | exact Or.inr (Or.inr rfl)))) (ja_c (jc_lo (jl_var (i := 2) rfl (by first | exact Or.inl rfl | exact Or.inr (Or.inl rfl) | exact Or.inr (Or.inr rfl)))) (ja_c (jc_sh (je_var (i := 3) rfl (by first | exact Or.inl rfl | exact Or.inr (Or.inl rfl) | exact Or.inr (Or.inr rfl)))) (ja_c (jc_sh (je_var (i := 4) rfl (by first | exact Or.inl rfl | exact Or.inr (Or.inl rfl) | exact Or.inr (Or.inr rfl)))) ja_nil))))))) pa_nil))))))
    (jss_one (js_ret (jc_sh (je_tupOf (by rfl) T.z_tuple (by decide +kernel) (jc_lo (jl_var (i := 5) rfl (by first | exact Or.inl rfl | exact Or.inr (Or.inl rfl) | exact Or.inr (Or.inr rfl))))))))))), (by
      have sc := sc_Placing_put_word
      refine fnX_J T.F_Placing_put_word sc rfl rfl (by decide) fun cdv A outer s H E hr tk pa => ?_
      exact (jss_cons (js_if (jt_cmp (op_eqA hr.units) os_eq (je_ix (je_var (i := 1) rfl (by first | exact Or.inl rfl | exact Or.inr (Or.inl rfl) | exact Or.inr (Or.inr rfl))) je_int (fun _ _ => rfl)) je_str (nomark _))
    (jss_one (js_ret (jc_sh (je_lst (ja_c (jc_sh (je_cell (jc_methX tk T.cl_Placing T.ck_Placing T.me_Placing_put_call ih.2.2 rfl hr T.b_Placing_put_call (jl_var (i := 0) rfl (by first | exact Or.inl rfl | exact Or.inr (Or.inl rfl) | exact Or.inr (Or.inr rfl))) (ja_c (jc_sh (je_ix (je_var (i := 1) rfl (by first | exact Or.inl rfl | exact Or.inr (Or.inl rfl) | exact Or.inr (Or.inr rfl))) je_int (fun _ _ => rfl))) (ja_c (jc_sh (je_cell (jc_call (ok_renamed T) rfl (hr.mono (Nat.le_trans (m := 29) (by decide) (Nat.le_add_right _ _))) (by rfl) T.g_renamed T.F_renamed.kp T.b_renamed (ja_c (jc_sh (je_ix (je_var (i := 1) rfl (by first | exact Or.inl rfl | exact Or.inr (Or.inl rfl) | exact Or.inr (Or.inr rfl))) je_int (fun _ _ => rfl))) (ja_c (jc_lo (jl_var (i := 2) rfl (by first | exact Or.inl rfl | exact Or.inr (Or.inl rfl) | exact Or.inr (Or.inr rfl)))) ja_nil))))) (ja_c (jc_sh (je_cell (jc_call (ok_renamed T) rfl (hr.mono (Nat.le_trans (m := 29) (by decide) (Nat.le_add_right _ _))) (by rfl) T.g_renamed T.F_renamed.kp T.b_renamed (ja_c (jc_sh (je_ix (je_var (i := 1) rfl (by first | exact Or.inl rfl | exact Or.inr (Or.inl rfl) | exact Or.inr (Or.inr rfl))) je_int (fun _ _ => rfl))) (ja_c (jc_lo (jl_var (i := 2) rfl (by first | exact Or.inl rfl | exact Or.inr (Or.inl rfl) | exact Or.inr (Or.inr rfl)))) ja_nil))))) ja_nil)))))) ja_nil)))))
    jss_nil)
    (jss_cons (js_if (PW.pt (jw_and (jt_cmp (op_eqA hr.units) os_eq (je_ix (je_var (i := 1) rfl (by first | exact Or.inl rfl | exact Or.inr (Or.inl rfl) | exact Or.inr (Or.inr rfl))) je_int (fun _ _ => rfl)) je_str (nomark _)) (jw_and1 (jt_cmp op_isNotA os_isNot (je_var (i := 3) rfl (by first | exact Or.inl rfl | exact Or.inr (Or.inl rfl) | exact Or.inr (Or.inr rfl))) je_non (nomark _)))))
    (jss_one (js_ret (jc_sh (je_cell (jc_methX tk T.cl_Placing T.ck_Placing T.me_Placing_put_leaving (ok_Placing_put_leaving T) rfl (hr.mono (Nat.le_trans (m := 29) (by decide) (Nat.le_add_right _ _))) T.b_Placing_put_leaving (jl_var (i := 0) rfl (by first | exact Or.inl rfl | exact Or.inr (Or.inl rfl) | exact Or.inr (Or.inr rfl))) (ja_c (jc_sh (je_var (i := 3) rfl (by first | exact Or.inl rfl | exact Or.inr (Or.inl rfl) | exact Or.inr (Or.inr rfl)))) (ja_c (jc_sh (je_var (i := 4) rfl (by first | exact Or.inl rfl | exact Or.inr (Or.inl rfl) | exact Or.inr (Or.inr rfl)))) ja_nil)))))))
    jss_nil)
    (jss_cons (js_expr (jc_sh (je_cell (jc_methX tk T.cl_Placing T.ck_Placing T.me_Placing_tally (ok_Placing_tally T) rfl (hr.mono (Nat.le_trans (m := 29) (by decide) (Nat.le_add_right _ _))) T.b_Placing_tally (jl_var (i := 0) rfl (by first | exact Or.inl rfl | exact Or.inr (Or.inl rfl) | exact Or.inr (Or.inr rfl))) (ja_c (jc_sh je_int) ja_nil)))))
    (jss_cons (js_if (jt_cmp (op_eqA hr.units) os_eq (je_ix (je_var (i := 1) rfl (by first | exact Or.inl rfl | exact Or.inr (Or.inl rfl) | exact Or.inr (Or.inr rfl))) je_int (fun _ _ => rfl)) je_str (nomark _))
    (jss_one (js_ret (jc_sh (je_lst (ja_c (jc_sh (je_tup (ja_c (jc_sh je_str) (ja_c (jc_sh (je_callTy call_tuple_of cs_tuple (by rfl) T.z_tuple (by decide +kernel) (ja_c (jc_sh (je_fr (jo_comp (own := [("inner", 5)]) (by decide) rfl sc.nd (ji_any (je_ix (je_var (i := 1) rfl (by first | exact Or.inl rfl | exact Or.inr (Or.inl rfl) | exact Or.inr (Or.inr rfl))) je_int (fun _ _ => rfl))) (blkOk_by (N := N_Placing_put_word) (sc := defScope s_Placing_put_word) (by decide +kernel)) (fun _ _ _ _ _ => (jg_name (i := 5) sc.nd rfl (by first | exact Or.inl rfl | exact Or.inr rfl))) (fun _ _ _ _ _ => jts_nil) (fun _ _ _ _ _ => (je_cell (jc_methXn T.cl_Placing T.ck_Placing T.me_Placing_put_row ih.1 rfl hr T.b_Placing_put_row (jl_var (i := 0) rfl (by first | exact Or.inl rfl | exact Or.inr (Or.inl rfl) | exact Or.inr (Or.inr rfl))) (ja_c (jc_sh (je_var (i := 5) rfl (by first | exact Or.inl rfl | exact Or.inr (Or.inl rfl) | exact Or.inr (Or.inr rfl)))) (ja_c (jc_lo (jl_var (i := 2) rfl (by first | exact Or.inl rfl | exact Or.inr (Or.inl rfl) | exact Or.inr (Or.inr rfl)))) (ja_c (jc_sh (je_var (i := 3) rfl (by first | exact Or.inl rfl | exact Or.inr (Or.inl rfl) | exact Or.inr (Or.inr rfl)))) (ja_c (jc_sh (je_var (i := 4) rfl (by first | exact Or.inl rfl | exact Or.inr (Or.inl rfl) | exact Or.inr (Or.inr rfl)))) ja_nil)))))))))) ja_nil))) ja_nil)))) ja_nil)))))
    jss_nil)
    (jss_cons (js_if (jt_cmp (op_eqA hr.units) os_eq (je_ix (je_var (i := 1) rfl (by first | exact Or.inl rfl | exact Or.inr (Or.inl rfl) | exact Or.inr (Or.inr rfl))) je_int (fun _ _ => rfl)) je_str (nomark _))
    (jss_one (js_ret (jc_sh (je_lst (ja_c (jc_sh (je_tup (ja_c (jc_sh je_str) (ja_c (jc_sh (je_cell (jc_methX tk T.cl_Placing T.ck_Placing T.me_Placing_put_row ih.1 rfl hr T.b_Placing_put_row (jl_var (i := 0) rfl (by first | exact Or.inl rfl | exact Or.inr (Or.inl rfl) | exact Or.inr (Or.inr rfl))) (ja_c (jc_sh (je_ix (je_var (i := 1) rfl (by first | exact Or.inl rfl | exact Or.inr (Or.inl rfl) | exact Or.inr (Or.inr rfl))) je_int (fun _ _ => rfl))) (ja_c (jc_lo (jl_var (i := 2) rfl (by first | exact Or.inl rfl | exact Or.inr (Or.inl rfl) | exact Or.inr (Or.inr rfl)))) (ja_c (jc_sh (je_var (i := 3) rfl (by first | exact Or.inl rfl | exact Or.inr (Or.inl rfl) | exact Or.inr (Or.inr rfl)))) (ja_c (jc_sh (je_bin op_addA os_add (je_var (i := 4) rfl (by first | exact Or.inl rfl | exact Or.inr (Or.inl rfl) | exact Or.inr (Or.inr rfl))) je_int)) ja_nil))))))) ja_nil)))) ja_nil)))))
    jss_nil)
    (jss_cons (js_if (jt_cmp (op_eqA hr.units) os_eq (je_ix (je_var (i := 1) rfl (by first | exact Or.inl rfl | exact Or.inr (Or.inl rfl) | exact Or.inr (Or.inr rfl))) je_int (fun _ _ => rfl)) je_str (nomark _))
    (jss_one (js_ret (jc_sh (je_lst (ja_c (jc_sh (je_tup (ja_c (jc_sh je_str) (ja_c (jc_sh (je_cell (jc_call (ok_renamed T) rfl (hr.mono (Nat.le_trans (m := 29) (by decide) (Nat.le_add_right _ _))) (by rfl) T.g_renamed T.F_renamed.kp T.b_renamed (ja_c (jc_sh (je_ix (je_var (i := 1) rfl (by first | exact Or.inl rfl | exact Or.inr (Or.inl rfl) | exact Or.inr (Or.inr rfl))) je_int (fun _ _ => rfl))) (ja_c (jc_lo (jl_var (i := 2) rfl (by first | exact Or.inl rfl | exact Or.inr (Or.inl rfl) | exact Or.inr (Or.inr rfl)))) ja_nil))))) ja_nil)))) ja_nil)))))
    jss_nil)
    (jss_cons (js_if (jt_cmp (op_eqA hr.units) os_eq (je_ix (je_var (i := 1) rfl (by first | exact Or.inl rfl | exact Or.inr (Or.inl rfl) | exact Or.inr (Or.inr rfl))) je_int (fun _ _ => rfl)) je_str (nomark _))
    (jss_one (js_ret (jc_sh (je_lst (ja_c (jc_sh (je_tup (ja_c (jc_sh je_str) (ja_c (jc_sh (je_cell (jc_dget2 hr.units (jl_var (i := 2) rfl (by first | exact Or.inl rfl | exact Or.inr (Or.inl rfl) | exact Or.inr (Or.inr rfl))) (je_ix (je_var (i := 1) rfl (by first | exact Or.inl rfl | exact Or.inr (Or.inl rfl) | exact Or.inr (Or.inr rfl))) je_int (fun _ _ => rfl)) (jc_sh (je_ix (je_var (i := 1) rfl (by first | exact Or.inl rfl | exact Or.inr (Or.inl rfl) | exact Or.inr (Or.inr rfl))) je_int (fun _ _ => rfl))) ⟨rfl, rfl, rfl, rfl⟩))) ja_nil)))) ja_nil)))))
    jss_nil)
    (jss_cons (js_if (jt_cmp op_inA os_in (je_ix (je_var (i := 1) rfl (by first | exact Or.inl rfl | exact Or.inr (Or.inl rfl) | exact Or.inr (Or.inr rfl))) je_int (fun _ _ => rfl)) (je_tup (ja_c (jc_sh je_str) (ja_c (jc_sh je_str) (ja_c (jc_sh je_str) (ja_c (jc_sh je_str) ja_nil))))) (by rfl))
    (jss_one (js_ret (jc_sh (je_lst (ja_c (jc_sh (je_var (i := 1) rfl (by first | exact Or.inl rfl | exact Or.inr (Or.inl rfl) | exact Or.inr (Or.inr rfl)))) ja_nil)))))
    jss_nil)
    (jss_cons (js_if (jt_cmp op_inA os_in (je_ix (je_var (i := 1) rfl (by first | exact Or.inl rfl | exact Or.inr (Or.inl rfl) | exact Or.inr (Or.inr rfl))) je_int (fun _ _ => rfl)) (je_tup (ja_c (jc_sh je_str) (ja_c (jc_sh je_str) ja_nil))) (by rfl))
    (jss_one (js_ret (jc_sh (je_lst (ja_c (jc_sh (je_bin op_addA os_add (je_bin op_addA os_add (je_tup (ja_c (jc_sh (je_ix (je_var (i := 1) rfl (by first | exact Or.inl rfl | exact Or.inr (Or.inl rfl) | exact Or.inr (Or.inr rfl))) je_int (fun _ _ => rfl))) ja_nil)) (je_cell (jc_call (ok_renamed T) rfl (hr.mono (Nat.le_trans (m := 29) (by decide) (Nat.le_add_right _ _))) (by rfl) T.g_renamed T.F_renamed.kp T.b_renamed (ja_c (jc_sh (je_slice (je_var (i := 1) rfl (by first | exact Or.inl rfl | exact Or.inr (Or.inl rfl) | exact Or.inr (Or.inr rfl))) (jp_some je_int) (jp_some je_int))) (ja_c (jc_lo (jl_var (i := 2) rfl (by first | exact Or.inl rfl | exact Or.inr (Or.inl rfl) | exact Or.inr (Or.inr rfl)))) ja_nil))))) (je_slice (je_var (i := 1) rfl (by first | exact Or.inl rfl | exact Or.inr (Or.inl rfl) | exact Or.inr (Or.inr rfl))) (jp_some je_int) jp_none))) ja_nil)))))
    jss_nil)
    (jss_one (js_ret (jc_sh (je_lst (ja_c (jc_sh (je_bin op_addA os_add (je_tup (ja_c (jc_sh (je_ix (je_var (i := 1) rfl (by first | exact Or.inl rfl | exact Or.inr (Or.inl rfl) | exact Or.inr (Or.inr rfl))) je_int (fun _ _ => rfl))) ja_nil)) (je_cell (jc_call (ok_renamed T) rfl (hr.mono (Nat.le_trans (m := 29) (by decide) (Nat.le_add_right _ _))) (by rfl) T.g_renamed T.F_renamed.kp T.b_renamed (ja_c (jc_sh (je_slice (je_var (i := 1) rfl (by first | exact Or.inl rfl | exact Or.inr (Or.inl rfl) | exact Or.inr (Or.inr rfl))) (jp_some je_int) jp_none)) (ja_c (jc_lo (jl_var (i := 2) rfl (by first | exact Or.inl rfl | exact Or.inr (Or.inl rfl) | exact Or.inr (Or.inr rfl)))) ja_nil)))))) ja_nil))))))))))))))), (by
      have sc := sc_Placing_put_call
      refine fnX_J T.F_Placing_put_call sc rfl rfl (by decide) fun cdv A outer s H E hr tk pa => ?_
      exact (jss_cons (js_asg (jc_sh (je_cell (jc_call (ok_def_of T) rfl (hr.mono (Nat.le_trans (m := 29) (by decide) (Nat.le_add_right _ _))) (by rfl) T.g_def_of T.F_def_of.kp T.b_def_of (ja_c (jc_sh (je_cell (jc_fld T.cl_Placing T.ck_Placing T.na_Placing_whole (jl_var (i := 0) rfl (by first | exact Or.inl rfl | exact Or.inr (Or.inl rfl) | exact Or.inr (Or.inr rfl)))))) (ja_c (jc_sh (je_var (i := 1) rfl (by first | exact Or.inl rfl | exact Or.inr (Or.inl rfl) | exact Or.inr (Or.inr rfl)))) ja_nil))))) (jg_tup rfl (jgs_cons (jg_name (i := 11) sc.nd rfl (by first | exact Or.inl rfl | exact Or.inr rfl)) (jgs_cons (jg_name (i := 12) sc.nd rfl (by first | exact Or.inl rfl | exact Or.inr rfl)) (jgs_cons (jg_name (i := 13) sc.nd rfl (by first | exact Or.inl rfl | exact Or.inr rfl)) (jgs_cons (jg_name (i := 14) sc.nd rfl (by first | exact Or.inl rfl | exact Or.inr rfl)) jgs_nil))))))
    (jss_cons (js_set (i := 4) sc.nd rfl (by first | exact Or.inl rfl | exact Or.inr rfl) (jc_sh (je_callTy call_tuple_of cs_tuple (by rfl) T.z_tuple (by decide +kernel) (ja_c (jc_sh (je_sortSet rfl (by rfl) T.z_sorted (by decide +kernel) (by rfl) T.z_set (by decide +kernel) (jc_sh (je_bin op_addA os_add (je_bin op_addA os_add (je_cell (jc_call ((ok_G5 T 14)) rfl (hr.mono (Nat.le_trans (m := 29) (by decide) (Nat.le_add_right _ _))) (by rfl) T.g_boxes_in T.F_boxes_in.kp T.b_boxes_in (ja_c (jc_sh (je_var (i := 14) rfl (by first | exact Or.inl rfl | exact Or.inr (Or.inl rfl) | exact Or.inr (Or.inr rfl)))) ja_nil))) (je_var (i := 12) rfl (by first | exact Or.inl rfl | exact Or.inr (Or.inl rfl) | exact Or.inr (Or.inr rfl)))) (je_var (i := 13) rfl (by first | exact Or.inl rfl | exact Or.inr (Or.inl rfl) | exact Or.inr (Or.inr rfl))))))) ja_nil))))
    (jss_cons (js_set (i := 5) sc.nd rfl (by first | exact Or.inl rfl | exact Or.inr rfl) (jc_lo jl_dnew))
    (jss_cons (js_for pa rfl (ji_any (je_sortL hr.units (by rfl) T.z_sorted (by decide +kernel) (je_bin op_addA os_add (je_fr (jo_listD rfl (by rfl) T.z_list (by decide +kernel) (jl_cell (jc_call ((ok_G6 T 14)) rfl (hr.mono (Nat.le_trans (m := 29) (by decide) (Nat.le_add_right _ _))) (by rfl) T.g_names_in T.F_names_in.kp T.b_names_in (ja_c (jc_sh (je_var (i := 14) rfl (by first | exact Or.inl rfl | exact Or.inr (Or.inl rfl) | exact Or.inr (Or.inr rfl)))) ja_nil))))) (je_fr (jo_comp (own := [("box", 17)]) (by decide) rfl sc.nd (ji_any (je_var (i := 4) rfl (by first | exact Or.inl rfl | exact Or.inr (Or.inl rfl) | exact Or.inr (Or.inr rfl)))) (blkOk_by (N := N_Placing_put_call) (sc := defScope s_Placing_put_call) (by decide +kernel)) (fun _ _ _ _ _ => (jg_name (i := 17) sc.nd rfl (by first | exact Or.inl rfl | exact Or.inr rfl))) (fun _ _ _ _ _ => jts_nil) (fun _ _ _ _ _ => (je_cell (jc_call (ok_first_name T) rfl (hr.mono (Nat.le_trans (m := 29) (by decide) (Nat.le_add_right _ _))) (by rfl) T.g_first_name T.F_first_name.kp T.b_first_name (ja_c (jc_sh (je_var (i := 17) rfl (by first | exact Or.inl rfl | exact Or.inr (Or.inl rfl) | exact Or.inr (Or.inr rfl)))) ja_nil))))))))) (jg_name (i := 6) sc.nd rfl (by first | exact Or.inl rfl | exact Or.inr rfl))
    (jss_one (js_if (jt_dnotin hr.units (je_var (i := 6) rfl (by first | exact Or.inl rfl | exact Or.inr (Or.inl rfl) | exact Or.inr (Or.inr rfl))) (jl_var (i := 5) rfl (by first | exact Or.inl rfl | exact Or.inr (Or.inl rfl) | exact Or.inr (Or.inr rfl))) (by rfl))
    (jss_one (js_dput hr.units (jl_var (i := 5) rfl (by first | exact Or.inl rfl | exact Or.inr (Or.inl rfl) | exact Or.inr (Or.inr rfl))) (je_var (i := 6) rfl (by first | exact Or.inl rfl | exact Or.inr (Or.inl rfl) | exact Or.inr (Or.inr rfl))) (jc_sh (je_cell (jc_meth0 T.cl_Placing T.ck_Placing T.me_Placing_fresh_name (ok_Placing_fresh_name T) (hr.mono (Nat.le_trans (m := 29) (by decide) (Nat.le_add_right _ _))) T.b_Placing_fresh_name (jl_var (i := 0) rfl (by first | exact Or.inl rfl | exact Or.inr (Or.inl rfl) | exact Or.inr (Or.inr rfl))))))))
    jss_nil)))
    (jss_cons (js_set (i := 7) sc.nd rfl (by first | exact Or.inl rfl | exact Or.inr rfl) (jc_sh (je_callTy call_tuple_of cs_tuple (by rfl) T.z_tuple (by decide +kernel) (ja_c (jc_sh (je_sortTu hr.units (by rfl) T.z_sorted (by decide +kernel) (je_cell (jc_call (ok_renamed T) rfl (hr.mono (Nat.le_trans (m := 29) (by decide) (Nat.le_add_right _ _))) (by rfl) T.g_renamed T.F_renamed.kp T.b_renamed (ja_c (jc_sh (je_callTy call_tuple_of cs_tuple (by rfl) T.z_tuple (by decide +kernel) (ja_c (jc_sh (je_fr (jo_comp (own := [("box", 17)]) (by decide) rfl sc.nd (ji_any (je_var (i := 4) rfl (by first | exact Or.inl rfl | exact Or.inr (Or.inl rfl) | exact Or.inr (Or.inr rfl)))) (blkOk_by (N := N_Placing_put_call) (sc := defScope s_Placing_put_call) (by decide +kernel)) (fun _ _ _ _ _ => (jg_name (i := 17) sc.nd rfl (by first | exact Or.inl rfl | exact Or.inr rfl))) (fun _ _ _ _ _ => (jts_one (jt_cmp op_notInA os_notIn (je_var (i := 17) rfl (by first | exact Or.inl rfl | exact Or.inr (Or.inl rfl) | exact Or.inr (Or.inr rfl))) (je_var (i := 13) rfl (by first | exact Or.inl rfl | exact Or.inr (Or.inl rfl) | exact Or.inr (Or.inr rfl))) (by rfl)))) (fun _ _ _ _ _ => (je_var (i := 17) rfl (by first | exact Or.inl rfl | exact Or.inr (Or.inl rfl) | exact Or.inr (Or.inr rfl))))))) ja_nil))) (ja_c (jc_lo (jl_var (i := 5) rfl (by first | exact Or.inl rfl | exact Or.inr (Or.inl rfl) | exact Or.inr (Or.inr rfl)))) ja_nil)))))) ja_nil))))
    (jss_cons (js_set (i := 8) sc.nd rfl (by first | exact Or.inl rfl | exact Or.inr rfl) (jc_sh (je_tup (ja_c (jc_sh (je_tupZip rfl (by rfl) T.z_tuple (by rfl) T.z_zip (je_cell (jc_call (ok_renamed T) rfl (hr.mono (Nat.le_trans (m := 29) (by decide) (Nat.le_add_right _ _))) (by rfl) T.g_renamed T.F_renamed.kp T.b_renamed (ja_c (jc_sh (je_var (i := 13) rfl (by first | exact Or.inl rfl | exact Or.inr (Or.inl rfl) | exact Or.inr (Or.inr rfl)))) (ja_c (jc_lo (jl_var (i := 5) rfl (by first | exact Or.inl rfl | exact Or.inr (Or.inl rfl) | exact Or.inr (Or.inr rfl)))) ja_nil)))) (je_var (i := 3) rfl (by first | exact Or.inl rfl | exact Or.inr (Or.inl rfl) | exact Or.inr (Or.inr rfl))))) (ja_c (jc_sh (je_var (i := 7) rfl (by first | exact Or.inl rfl | exact Or.inr (Or.inl rfl) | exact Or.inr (Or.inr rfl)))) ja_nil)))))
    (jss_cons (js_lc (mc := (fun m => mSh (mFr m))) (i := 9) (own := [("param", 15), ("arg", 16)]) (by decide) rfl sc.nd rfl rfl mc_fr (sw_true rfl rfl rfl (by decide +kernel)) (ji_zip (by rfl) T.z_zip (je_cell (jc_call (ok_renamed T) rfl (hr.mono (Nat.le_trans (m := 29) (by decide) (Nat.le_add_right _ _))) (by rfl) T.g_renamed T.F_renamed.kp T.b_renamed (ja_c (jc_sh (je_var (i := 12) rfl (by first | exact Or.inl rfl | exact Or.inr (Or.inl rfl) | exact Or.inr (Or.inr rfl)))) (ja_c (jc_lo (jl_var (i := 5) rfl (by first | exact Or.inl rfl | exact Or.inr (Or.inl rfl) | exact Or.inr (Or.inr rfl)))) ja_nil)))) (je_var (i := 2) rfl (by first | exact Or.inl rfl | exact Or.inr (Or.inl rfl) | exact Or.inr (Or.inr rfl)))) (blkOk_by (N := N_Placing_put_call) (sc := defScope s_Placing_put_call) (by decide +kernel)) (fun _ _ _ _ _ => (jg_tup rfl (jgs_cons (jg_name (i := 15) sc.nd rfl (by first | exact Or.inl rfl | exact Or.inr rfl)) (jgs_cons (jg_name (i := 16) sc.nd rfl (by first | exact Or.inl rfl | exact Or.inr rfl)) jgs_nil)))) (fun _ _ _ _ _ => jts_nil) (fun _ _ _ _ _ => (je_tup (ja_c (jc_sh je_str) (ja_c (jc_sh (je_var (i := 15) rfl (by first | exact Or.inl rfl | exact Or.inr (Or.inl rfl) | exact Or.inr (Or.inr rfl)))) (ja_c (jc_sh (je_var (i := 16) rfl (by first | exact Or.inl rfl | exact Or.inr (Or.inl rfl) | exact Or.inr (Or.inr rfl)))) ja_nil))))))
    (jss_cons (js_set (i := 9) sc.nd rfl (by first | exact Or.inl rfl | exact Or.inr rfl) (jc_sh (je_bin op_addA os_add (je_var (i := 9) rfl (by first | exact Or.inl rfl | exact Or.inr (Or.inl rfl) | exact Or.inr (Or.inr rfl))) (je_fr (jo_comp (own := [("arg", 16)]) (by decide) rfl sc.nd (ji_any (je_var (i := 2) rfl (by first | exact Or.inl rfl | exact Or.inr (Or.inl rfl) | exact Or.inr (Or.inr rfl)))) (blkOk_by (N := N_Placing_put_call) (sc := defScope s_Placing_put_call) (by decide +kernel)) (fun _ _ _ _ _ => (jg_name (i := 16) sc.nd rfl (by first | exact Or.inl rfl | exact Or.inr rfl))) (fun _ _ _ _ _ => jts_nil) (fun _ _ _ _ _ => (je_tup (ja_c (jc_sh je_str) (ja_c (jc_sh (je_var (i := 16) rfl (by first | exact Or.inl rfl | exact Or.inr (Or.inl rfl) | exact Or.inr (Or.inr rfl)))) ja_nil)))))))))
    (jss_cons (js_expr (jc_sh (je_cell (jc_methX tk T.cl_Placing T.ck_Placing T.me_Placing_tally (ok_Placing_tally T) rfl (hr.mono (Nat.le_trans (m := 29) (by decide) (Nat.le_add_right _ _))) T.b_Placing_tally (jl_var (i := 0) rfl (by first | exact Or.inl rfl | exact Or.inr (Or.inl rfl) | exact Or.inr (Or.inr rfl))) (ja_c (jc_sh (je_bin op_addA os_add je_int (je_callB call_lenA cs_len (by rfl) T.z_len (by decide +kernel) (ja_c (jc_sh (je_var (i := 9) rfl (by first | exact Or.inl rfl | exact Or.inr (Or.inl rfl) | exact Or.inr (Or.inr rfl)))) ja_nil)))) ja_nil)))))
    (jss_cons (js_set (i := 10) sc.nd rfl (by first | exact Or.inl rfl | exact Or.inr rfl) (jc_sh (je_cell (jc_methX tk T.cl_Placing T.ck_Placing T.me_Placing_put_row ih.1 rfl hr T.b_Placing_put_row (jl_var (i := 0) rfl (by first | exact Or.inl rfl | exact Or.inr (Or.inl rfl) | exact Or.inr (Or.inr rfl))) (ja_c (jc_sh (je_var (i := 14) rfl (by first | exact Or.inl rfl | exact Or.inr (Or.inl rfl) | exact Or.inr (Or.inr rfl)))) (ja_c (jc_lo (jl_var (i := 5) rfl (by first | exact Or.inl rfl | exact Or.inr (Or.inl rfl) | exact Or.inr (Or.inr rfl)))) (ja_c (jc_sh (je_var (i := 8) rfl (by first | exact Or.inl rfl | exact Or.inr (Or.inl rfl) | exact Or.inr (Or.inr rfl)))) (ja_c (jc_sh je_int) ja_nil))))))))
    (jss_one (js_ret (jc_sh (je_tup (ja_c (jc_sh je_str) (ja_c (jc_sh (je_bin op_addA os_add (je_bin op_addA os_add (je_callTy call_tuple_of cs_tuple (by rfl) T.z_tuple (by decide +kernel) (ja_c (jc_sh (je_var (i := 9) rfl (by first | exact Or.inl rfl | exact Or.inr (Or.inl rfl) | exact Or.inr (Or.inr rfl)))) ja_nil)) (je_var (i := 10) rfl (by first | exact Or.inl rfl | exact Or.inr (Or.inl rfl) | exact Or.inr (Or.inr rfl)))) (je_callTy call_tuple_of cs_tuple (by rfl) T.z_tuple (by decide +kernel) (ja_c (jc_sh (je_cell (jc_methX tk T.cl_Placing T.ck_Placing T.me_Placing_put_leaving (ok_Placing_put_leaving T) rfl (hr.mono (Nat.le_trans (m := 29) (by decide) (Nat.le_add_right _ _))) T.b_Placing_put_leaving (jl_var (i := 0) rfl (by first | exact Or.inl rfl | exact Or.inr (Or.inl rfl) | exact Or.inr (Or.inr rfl))) (ja_c (jc_sh (je_var (i := 8) rfl (by first | exact Or.inl rfl | exact Or.inr (Or.inl rfl) | exact Or.inr (Or.inr rfl)))) (ja_c (jc_sh je_int) ja_nil))))) ja_nil)))) ja_nil)))))))))))))))))⟩
theorem ok_in_place (T : Tx w K mg) : FnOk P w K mg base (L2.CX P w) 44 T.a_in_place T.d_in_place ["program"] (spX K 1 f_in_place) := by
  have sc := sc_in_place
  refine fnX_J T.F_in_place sc rfl rfl (by decide) fun cdv A outer s H E hr tk pa => ?_
  exact (jss_cons (js_set (i := 1) sc.nd rfl (by first | exact Or.inl rfl | exact Or.inr rfl) (jc_lo (jl_make T.cl_Placing T.mk_Placing (ok_Placing___init__ T) rfl (hr.mono (by decide)) (by rfl) T.g_Placing T.b_Placing___init__ (ja_c (jc_sh (je_var (i := 0) rfl (by first | exact Or.inl rfl | exact Or.inr (Or.inl rfl) | exact Or.inr (Or.inr rfl)))) ja_nil))))
    (jss_one (js_ret (jc_sh (je_tup (ja_c (jc_sh (je_tup ja_nil)) (ja_c (jc_sh (je_cell (jc_methX tk T.cl_Placing T.ck_Placing T.me_Placing_put_row ((ok_G14 T 14).1) rfl (hr.mono (by decide)) T.b_Placing_put_row (jl_var (i := 1) rfl (by first | exact Or.inl rfl | exact Or.inr (Or.inl rfl) | exact Or.inr (Or.inr rfl))) (ja_c (jc_sh (je_ix (je_var (i := 0) rfl (by first | exact Or.inl rfl | exact Or.inr (Or.inl rfl) | exact Or.inr (Or.inr rfl))) je_int (fun _ _ => rfl))) (ja_c (jc_lo jl_dnew) (ja_c (jc_sh je_non) (ja_c (jc_sh je_int) ja_nil))))))) ja_nil)))))))
theorem ok__law_deck (T : Tx w K mg) : FnOk P w K mg base CX0 1 T.a__law_deck T.d__law_deck ["_law_script", "_law_k"] (spF K 2 f__law_deck) := by
  have sc := sc__law_deck
  refine fn_J T.F__law_deck sc rfl rfl (by decide) fun cdv A outer s H E hr => ?_
  exact (jss_cons (js_set (i := 2) sc.nd rfl (by first | exact Or.inl rfl | exact Or.inr rfl) (jc_sh je_int))
    (jss_cons (js_if (jt_cmp op_ltA os_ord (je_var (i := 1) rfl (by first | exact Or.inl rfl | exact Or.inr (Or.inl rfl) | exact Or.inr (Or.inr rfl))) (je_callB call_lenA cs_len (by rfl) T.z_len (by decide +kernel) (ja_c (jc_sh (je_var (i := 0) rfl (by first | exact Or.inl rfl | exact Or.inr (Or.inl rfl) | exact Or.inr (Or.inr rfl)))) ja_nil)) (nomark _))
    (jss_one (js_set (i := 2) sc.nd rfl (by first | exact Or.inl rfl | exact Or.inr rfl) (jc_sh (je_ix (je_var (i := 0) rfl (by first | exact Or.inl rfl | exact Or.inr (Or.inl rfl) | exact Or.inr (Or.inr rfl))) (je_var (i := 1) rfl (by first | exact Or.inl rfl | exact Or.inr (Or.inl rfl) | exact Or.inr (Or.inr rfl))) (fun _ _ => rfl)))))
    jss_nil)
    (jss_one (js_ret (jc_lo (jl_new (jo_lst (ja_c (jc_sh (je_bin op_mulA os_mul (je_var (i := 2) rfl (by first | exact Or.inl rfl | exact Or.inr (Or.inl rfl) | exact Or.inr (Or.inr rfl))) (je_callTy call_int1 cs_int (by rfl) T.z_int (by decide +kernel) (ja_c (jc_sh (je_cmp op_geA os_ord (je_var (i := 2) rfl (by first | exact Or.inl rfl | exact Or.inr (Or.inl rfl) | exact Or.inr (Or.inr rfl))) (je_bin op_pow os_pow je_int je_int) (nomark _))) ja_nil)))) (ja_c (jc_sh (je_bin op_mod os_mod (je_var (i := 2) rfl (by first | exact Or.inl rfl | exact Or.inr (Or.inl rfl) | exact Or.inr (Or.inr rfl))) je_int)) (ja_c (jc_sh je_int) ja_nil))))))))))
theorem ok__law_draw (T : Tx w K mg) : FnOk P w K mg base CX0 1 T.a__law_draw T.d__law_draw ["_law_deck_here", "_law_many"] (spF K 2 f__law_draw) := by
  have sc := sc__law_draw
  refine fn_J T.F__law_draw sc rfl rfl (by decide) fun cdv A outer s H E hr => ?_
  exact (jss_cons (js_if (jt_cmp op_gtA os_ord (je_cell (jc_ix (jc_lo (jl_var (i := 0) rfl (by first | exact Or.inl rfl | exact Or.inr (Or.inl rfl) | exact Or.inr (Or.inr rfl)))) je_int (fun _ _ => rfl))) je_int (nomark _))
    (jss_cons (js_set (i := 3) sc.nd rfl (by first | exact Or.inl rfl | exact Or.inr rfl) (jc_sh (je_bin op_mod os_mod (je_cell (jc_ix (jc_lo (jl_var (i := 0) rfl (by first | exact Or.inl rfl | exact Or.inr (Or.inl rfl) | exact Or.inr (Or.inr rfl)))) je_int (fun _ _ => rfl))) (je_var (i := 1) rfl (by first | exact Or.inl rfl | exact Or.inr (Or.inl rfl) | exact Or.inr (Or.inr rfl))))))
    (jss_cons (js_setIx (jl_var (i := 0) rfl (by first | exact Or.inl rfl | exact Or.inr (Or.inl rfl) | exact Or.inr (Or.inr rfl))) je_int (jc_sh (je_bin op_fdivW os_div (je_cell (jc_ix (jc_lo (jl_var (i := 0) rfl (by first | exact Or.inl rfl | exact Or.inr (Or.inl rfl) | exact Or.inr (Or.inr rfl)))) je_int (fun _ _ => rfl))) (je_var (i := 1) rfl (by first | exact Or.inl rfl | exact Or.inr (Or.inl rfl) | exact Or.inr (Or.inr rfl))))))
    (jss_one (js_ret (jc_sh (je_var (i := 3) rfl (by first | exact Or.inl rfl | exact Or.inr (Or.inl rfl) | exact Or.inr (Or.inr rfl))))))))
    jss_nil)
    (jss_cons (js_setIx (jl_var (i := 0) rfl (by first | exact Or.inl rfl | exact Or.inr (Or.inl rfl) | exact Or.inr (Or.inr rfl))) je_int (jc_sh (je_bin op_addA os_add (je_cell (jc_ix (jc_lo (jl_var (i := 0) rfl (by first | exact Or.inl rfl | exact Or.inr (Or.inl rfl) | exact Or.inr (Or.inr rfl)))) je_int (fun _ _ => rfl))) je_int)))
    (jss_cons (js_set (i := 2) sc.nd rfl (by first | exact Or.inl rfl | exact Or.inr rfl) (jc_sh (je_bin op_mod os_mod (je_bin op_mulA os_mul (je_bin op_addA os_add (je_bin op_addA os_add (je_cell (jc_ix (jc_lo (jl_var (i := 0) rfl (by first | exact Or.inl rfl | exact Or.inr (Or.inl rfl) | exact Or.inr (Or.inr rfl)))) je_int (fun _ _ => rfl))) (je_bin op_mulA os_mul (je_bin op_mulA os_mul je_int (je_cell (jc_ix (jc_lo (jl_var (i := 0) rfl (by first | exact Or.inl rfl | exact Or.inr (Or.inl rfl) | exact Or.inr (Or.inr rfl)))) je_int (fun _ _ => rfl)))) (je_cell (jc_ix (jc_lo (jl_var (i := 0) rfl (by first | exact Or.inl rfl | exact Or.inr (Or.inl rfl) | exact Or.inr (Or.inr rfl)))) je_int (fun _ _ => rfl))))) je_int) je_int) je_int)))
    (jss_one (js_ret (jc_sh (je_bin op_mod os_mod (je_bin op_fdivW os_div (je_bin op_mod os_mod (je_bin op_mulA os_mul (je_var (i := 2) rfl (by first | exact Or.inl rfl | exact Or.inr (Or.inl rfl) | exact Or.inr (Or.inr rfl))) (je_bin op_addA os_add (je_var (i := 2) rfl (by first | exact Or.inl rfl | exact Or.inr (Or.inl rfl) | exact Or.inr (Or.inr rfl))) je_int)) je_int) je_int) (je_var (i := 1) rfl (by first | exact Or.inl rfl | exact Or.inr (Or.inl rfl) | exact Or.inr (Or.inr rfl))))))))))
theorem ok__law_names (T : Tx w K mg) : FnOk P w K mg base CX0 2 T.a__law_names T.d__law_names ["_law_deck_here", "_law_many"] (spF K 2 f__law_names) := by
  have sc := sc__law_names
  refine fn_J T.F__law_names sc rfl rfl (by decide) fun cdv A outer s H E hr => ?_
  exact (jss_cons (js_set (i := 2) sc.nd rfl (by first | exact Or.inl rfl | exact Or.inr rfl) (jc_sh je_str))
    (jss_cons (js_lc (mc := (fun m => mLo (mNew m))) (i := 3) (own := [("_law_k", 8)]) (by decide) rfl sc.nd rfl rfl mc_new (sw_true rfl rfl rfl (by decide +kernel)) (ji_range1 (by rfl) T.z_range (je_bin op_addA os_add je_int (je_cell (jc_call (ok__law_draw T) rfl (hr.mono (by decide)) (by rfl) T.g__law_draw T.F__law_draw.kp T.b__law_draw (ja_c (jc_lo (jl_var (i := 0) rfl (by first | exact Or.inl rfl | exact Or.inr (Or.inl rfl) | exact Or.inr (Or.inr rfl)))) (ja_c (jc_sh je_int) ja_nil)))))) (blkOk_by (N := N__law_names) (sc := defScope s__law_names) (by decide +kernel)) (fun _ _ _ _ _ => (jg_name (i := 8) sc.nd rfl (by first | exact Or.inl rfl | exact Or.inr rfl))) (fun _ _ _ _ _ => jts_nil) (fun _ _ _ _ _ => (je_ix (je_var (i := 2) rfl (by first | exact Or.inl rfl | exact Or.inr (Or.inl rfl) | exact Or.inr (Or.inr rfl))) (je_cell (jc_call (ok__law_draw T) rfl (hr.mono (by decide)) (by rfl) T.g__law_draw T.F__law_draw.kp T.b__law_draw (ja_c (jc_lo (jl_var (i := 0) rfl (by first | exact Or.inl rfl | exact Or.inr (Or.inl rfl) | exact Or.inr (Or.inr rfl)))) (ja_c (jc_sh je_int) ja_nil)))) (fun _ _ => rfl))))
    (jss_cons (js_set (i := 4) sc.nd rfl (by first | exact Or.inl rfl | exact Or.inr rfl) (jc_sh (je_cell (jc_call (ok__law_draw T) rfl (hr.mono (by decide)) (by rfl) T.g__law_draw T.F__law_draw.kp T.b__law_draw (ja_c (jc_lo (jl_var (i := 0) rfl (by first | exact Or.inl rfl | exact Or.inr (Or.inl rfl) | exact Or.inr (Or.inr rfl)))) (ja_c (jc_sh (je_callBC call_lenA cs_len (by rfl) T.z_len (by decide +kernel) (ja_c (jc_lo (jl_var (i := 3) rfl (by first | exact Or.inl rfl | exact Or.inr (Or.inl rfl) | exact Or.inr (Or.inr rfl)))) ja_nil))) ja_nil))))))
    (jss_cons (js_set (i := 5) sc.nd rfl (by first | exact Or.inl rfl | exact Or.inr rfl) (jc_sh (je_cell (jc_call (ok__law_draw T) rfl (hr.mono (by decide)) (by rfl) T.g__law_draw T.F__law_draw.kp T.b__law_draw (ja_c (jc_lo (jl_var (i := 0) rfl (by first | exact Or.inl rfl | exact Or.inr (Or.inl rfl) | exact Or.inr (Or.inr rfl)))) (ja_c (jc_sh je_int) ja_nil))))))
    (jss_cons (js_set (i := 6) sc.nd rfl (by first | exact Or.inl rfl | exact Or.inr rfl) (jc_sh (je_cell (jc_call (ok__law_draw T) rfl (hr.mono (by decide)) (by rfl) T.g__law_draw T.F__law_draw.kp T.b__law_draw (ja_c (jc_lo (jl_var (i := 0) rfl (by first | exact Or.inl rfl | exact Or.inr (Or.inl rfl) | exact Or.inr (Or.inr rfl)))) (ja_c (jc_sh je_int) ja_nil))))))
    (jss_cons (js_set (i := 7) sc.nd rfl (by first | exact Or.inl rfl | exact Or.inr rfl) (jc_lo (jl_new (jo_lst ja_nil))))
    (jss_cons (js_for PassesOwn.never rfl (ji_range1 (by rfl) T.z_range (je_var (i := 1) rfl (by first | exact Or.inl rfl | exact Or.inr (Or.inl rfl) | exact Or.inr (Or.inr rfl)))) (jg_name (i := 8) sc.nd rfl (by first | exact Or.inl rfl | exact Or.inr rfl))
    (jss_cons (js_setIx (jl_var (i := 3) rfl (by first | exact Or.inl rfl | exact Or.inr (Or.inl rfl) | exact Or.inr (Or.inr rfl))) (je_var (i := 4) rfl (by first | exact Or.inl rfl | exact Or.inr (Or.inl rfl) | exact Or.inr (Or.inr rfl))) (jc_sh (je_ix (je_var (i := 2) rfl (by first | exact Or.inl rfl | exact Or.inr (Or.inl rfl) | exact Or.inr (Or.inr rfl))) (je_bin op_mod os_mod (je_bin op_addA os_add (je_var (i := 5) rfl (by first | exact Or.inl rfl | exact Or.inr (Or.inl rfl) | exact Or.inr (Or.inr rfl))) (je_var (i := 8) rfl (by first | exact Or.inl rfl | exact Or.inr (Or.inl rfl) | exact Or.inr (Or.inr rfl)))) je_int) (fun _ _ => rfl))))
    (jss_one (js_app (jl_var (i := 7) rfl (by first | exact Or.inl rfl | exact Or.inr (Or.inl rfl) | exact Or.inr (Or.inr rfl))) (jc_sh (je_bin op_addA os_add (je_bin op_addA os_add je_str (je_m1C PySem.F.slot_str_join PySem.F.type_str_join mt_join ms_join je_str (jc_lo (jl_var (i := 3) rfl (by first | exact Or.inl rfl | exact Or.inr (Or.inl rfl) | exact Or.inr (Or.inr rfl)))))) (je_bin op_mulA os_mul je_str (je_bin op_mulA os_mul (je_bin op_mod os_mod (je_var (i := 8) rfl (by first | exact Or.inl rfl | exact Or.inr (Or.inl rfl) | exact Or.inr (Or.inr rfl))) je_int) (je_var (i := 6) rfl (by first | exact Or.inl rfl | exact Or.inr (Or.inl rfl) | exact Or.inr (Or.inr rfl))))))) (PE0 := (pe_bm PySem.F.plainAttrs_list PySem.F.slot_list_append PySem.F.type_list_append mt_append (jl_var (i := 7) rfl (by first | exact Or.inl rfl | exact Or.inr (Or.inl rfl) | exact Or.inr (Or.inr rfl))) (pa_cons (jc_sh (je_bin op_addA os_add (je_bin op_addA os_add je_str (je_m1C PySem.F.slot_str_join PySem.F.type_str_join mt_join ms_join je_str (jc_lo (jl_var (i := 3) rfl (by first | exact Or.inl rfl | exact Or.inr (Or.inl rfl) | exact Or.inr (Or.inr rfl)))))) (je_bin op_mulA os_mul je_str (je_bin op_mulA os_mul (je_bin op_mod os_mod (je_var (i := 8) rfl (by first | exact Or.inl rfl | exact Or.inr (Or.inl rfl) | exact Or.inr (Or.inr rfl))) je_int) (je_var (i := 6) rfl (by first | exact Or.inl rfl | exact Or.inr (Or.inl rfl) | exact Or.inr (Or.inr rfl))))))) pa_nil)))))))
    (jss_one (js_ret (jc_sh (je_seal (jl_var (i := 7) rfl (by first | exact Or.inl rfl | exact Or.inr (Or.inl rfl) | exact Or.inr (Or.inr rfl))))))))))))))
theorem ok_G19 (T : Tx w K mg) : ∀ k : Nat, FnOk P w K mg base CX0 (0 + k) T.a__law_counted T.d__law_counted ["_law_row"] (spF K 1 (f_G19 k 0))
  | 0 => fn_bad rfl
  | k + 1 => by
    have ih := ok_G19 T k
    exact (by
      have sc := sc__law_counted
      refine fn_J T.F__law_counted sc rfl rfl (by decide) fun cdv A outer s H E hr => ?_
      exact (jss_cons (js_set (i := 1) sc.nd rfl (by first | exact Or.inl rfl | exact Or.inr rfl) (jc_sh (je_callB call_lenA cs_len (by rfl) T.z_len (by decide +kernel) (ja_c (jc_sh (je_var (i := 0) rfl (by first | exact Or.inl rfl | exact Or.inr (Or.inl rfl) | exact Or.inr (Or.inr rfl)))) ja_nil))))
    (jss_cons (js_for PassesOwn.never rfl (ji_any (je_var (i := 0) rfl (by first | exact Or.inl rfl | exact Or.inr (Or.inl rfl) | exact Or.inr (Or.inr rfl)))) (jg_name (i := 2) sc.nd rfl (by first | exact Or.inl rfl | exact Or.inr rfl))
    (jss_cons (js_if (jt_cmp (op_eqA hr.units) os_eq (je_ix (je_var (i := 2) rfl (by first | exact Or.inl rfl | exact Or.inr (Or.inl rfl) | exact Or.inr (Or.inr rfl))) je_int (fun _ _ => rfl)) je_str (nomark _))
    (jss_one (js_set (i := 1) sc.nd rfl (by first | exact Or.inl rfl | exact Or.inr rfl) (jc_sh (je_bin op_addA os_add (je_var (i := 1) rfl (by first | exact Or.inl rfl | exact Or.inr (Or.inl rfl) | exact Or.inr (Or.inr rfl))) (je_cell (jc_call ih rfl hr (by rfl) T.g__law_counted T.F__law_counted.kp T.b__law_counted (ja_c (jc_sh (je_ix (je_var (i := 2) rfl (by first | exact Or.inl rfl | exact Or.inr (Or.inl rfl) | exact Or.inr (Or.inr rfl))) je_int (fun _ _ => rfl))) ja_nil)))))))
    jss_nil)
    (jss_one (js_if (jt_cmp (op_eqA hr.units) os_eq (je_ix (je_var (i := 2) rfl (by first | exact Or.inl rfl | exact Or.inr (Or.inl rfl) | exact Or.inr (Or.inr rfl))) je_int (fun _ _ => rfl)) je_str (nomark _))
    (jss_one (js_set (i := 1) sc.nd rfl (by first | exact Or.inl rfl | exact Or.inr rfl) (jc_sh (je_bin op_addA os_add (je_var (i := 1) rfl (by first | exact Or.inl rfl | exact Or.inr (Or.inl rfl) | exact Or.inr (Or.inr rfl))) (je_callB (cr_sum rfl) cs_sum (by rfl) T.z_sum (by decide +kernel) (ja_c (jc_sh (je_fr (jo_comp (own := [("_law_one", 3)]) (by decide) rfl sc.nd (ji_any (je_ix (je_var (i := 2) rfl (by first | exact Or.inl rfl | exact Or.inr (Or.inl rfl) | exact Or.inr (Or.inr rfl))) je_int (fun _ _ => rfl))) (blkOk_by (N := N__law_counted) (sc := defScope s__law_counted) (by decide +kernel)) (fun _ _ _ _ _ => (jg_name (i := 3) sc.nd rfl (by first | exact Or.inl rfl | exact Or.inr rfl))) (fun _ _ _ _ _ => jts_nil) (fun _ _ _ _ _ => (je_cell (jc_call ih rfl hr (by rfl) T.g__law_counted T.F__law_counted.kp T.b__law_counted (ja_c (jc_sh (je_var (i := 3) rfl (by first | exact Or.inl rfl | exact Or.inr (Or.inl rfl) | exact Or.inr (Or.inr rfl)))) ja_nil))))))) ja_nil))))))
    jss_nil))))
    (jss_one (js_ret (jc_sh (je_var (i := 1) rfl (by first | exact Or.inl rfl | exact Or.inr (Or.inl rfl) | exact Or.inr (Or.inr rfl)))))))))
theorem ok__law_told (T : Tx w K mg) : FnOk P w K mg base CX0 45 T.a__law_told T.d__law_told ["_law_program_here"] (spF K 1 f__law_told) := by
  have sc := sc__law_told
  refine fn_J T.F__law_told sc rfl rfl (by decide) fun cdv A outer s H E hr => ?_
  exact (jss_cons (js_set (i := 1) sc.nd rfl (by first | exact Or.inl rfl | exact Or.inr rfl) (jc_sh je_str))
    (jss_cons (js_tryAs (i := 2) rfl rfl sc.nd rfl rfl ⟨by rfl, by decide, .inl T.g_WipeError⟩ takesNo (hit_ok T.h_0) (fun W pn xe tk pa => (jss_one (js_set (i := 1) sc.nd rfl (by first | exact Or.inl rfl | exact Or.inr rfl) (jc_sh (je_cell (jc_call ((ok_G19 T 14)) rfl (hr.mono (by decide)) (by rfl) T.g__law_counted T.F__law_counted.kp T.b__law_counted (ja_c (jc_sh (je_ix (je_cell (jc_callX tk (ok_in_place T) rfl (hr.mono (by decide)) (by rfl) T.g_in_place T.F_in_place.kp T.b_in_place (ja_c (jc_sh (je_var (i := 0) rfl (by first | exact Or.inl rfl | exact Or.inr (Or.inl rfl) | exact Or.inr (Or.inr rfl)))) ja_nil))) je_int (fun _ _ => rfl))) ja_nil)))))))
    (fun y C a oe d pn hC hd hz hf => (suite_if (m1 := fun num => (mSeq (mSet 3 (mSh (mOrV (mIsB (some false)) (mOrV (mIsB (some false)) (mOrV (mIsB (some false)) (mIsB (some false)))))))
  (mIfS (mAndT (mTest (mIsB (some true))) (mAndT (mTest (mIsB (some true))) (mAndT (mNotT (mTest (mVar 3))) (mNotT (mTest (mIsB (some false))))))) (mSet 1 (mSh (mC (PyData.str "long")))) mNx))) (m2 := msBad) T.cl_TooLong hC hz (fun hz => (jks_cons (jks_set (j := 3) (by decide) sc.nd rfl (by first | exact Or.inl rfl | exact Or.inr rfl) (jk_sh (jk_or (jk_isE (o := some false) T.ec_TooLong hz hf (by rfl) T.z_isinstance (i := 2) rfl (by first | exact Or.inl rfl | exact Or.inr (Or.inl rfl) | exact Or.inr (Or.inr rfl)) (pe_glob (v := .ref T.C_NoAnswer) (by rfl) T.g_NoAnswer rfl) (.own _) (fun b h => by cases h; exact T.ki_0)) (jk_or (jk_isE (o := some false) T.ec_TooLong hz hf (by rfl) T.z_isinstance (i := 2) rfl (by first | exact Or.inl rfl | exact Or.inr (Or.inl rfl) | exact Or.inr (Or.inr rfl)) (pe_glob (v := .ref T.C_NoCode) (by rfl) T.g_NoCode rfl) (.own _) (fun b h => by cases h; exact T.ki_1)) (jk_or (jk_isE (o := some false) T.ec_TooLong hz hf (by rfl) T.z_isinstance (i := 2) rfl (by first | exact Or.inl rfl | exact Or.inr (Or.inl rfl) | exact Or.inr (Or.inr rfl)) (pe_glob (v := .ref T.C_NoRow) (by rfl) T.g_NoRow rfl) (.own _) (fun b h => by cases h; exact T.ki_2)) (jk_one (jk_isE (o := some false) T.ec_TooLong hz hf (by rfl) T.z_isinstance (i := 2) rfl (by first | exact Or.inl rfl | exact Or.inr (Or.inl rfl) | exact Or.inr (Or.inr rfl)) (pe_glob (v := .ref T.C_NoTurn) (by rfl) T.g_NoTurn rfl) (.own _) (fun b h => by cases h; exact T.ki_3))))))))
    (jks_one (jks_if (PW.pt (jkw_and (jkt_val (jk_isE (o := some true) T.ec_TooLong hz hf (by rfl) T.z_isinstance (i := 2) rfl (by first | exact Or.inl rfl | exact Or.inr (Or.inl rfl) | exact Or.inr (Or.inr rfl)) (pe_glob (v := .ref T.C_TooLong) (by rfl) T.g_TooLong rfl) (.own _) (fun b h => by cases h; exact T.ki_4))) (jkw_and (jkt_val (jk_isE (o := some true) T.ec_TooLong hz hf (by rfl) T.z_isinstance (i := 2) rfl (by first | exact Or.inl rfl | exact Or.inr (Or.inl rfl) | exact Or.inr (Or.inr rfl)) (pe_bltn (v := .ty "ValueError") (by rfl) T.z_ValueError rfl rfl) (.ty _) (fun b h => by cases h; exact T.ki_5))) (jkw_and (jkt_free (jt_not (jt_val (je_var (i := 3) rfl (by first | exact Or.inl rfl | exact Or.inr (Or.inl rfl) | exact Or.inr (Or.inr rfl)))))) (jkw_and1 (jkt_not (jkt_val (jk_isE (o := some false) T.ec_TooLong hz hf (by rfl) T.z_isinstance (i := 2) rfl (by first | exact Or.inl rfl | exact Or.inr (Or.inl rfl) | exact Or.inr (Or.inr rfl)) (pe_glob (v := .ref T.C_NoText) (by rfl) T.g_NoText rfl) (.own _) (fun b h => by cases h; exact T.ki_6)))))))))
    (jks_one (jks_set (j := 1) (by decide) sc.nd rfl (by first | exact Or.inl rfl | exact Or.inr rfl) (jkc_free (jc_sh je_str))))
    jks_nil))))
    suite_bad)))
    (jss_one (js_ret (jc_sh (je_var (i := 1) rfl (by first | exact Or.inl rfl | exact Or.inr (Or.inl rfl) | exact Or.inr (Or.inr rfl))))))))
theorem ok__law_program (T : Tx w K mg) : FnOk P w K mg base CX0 1 T.a__law_program T.d__law_program ["_law_names_here", "_law_sizes", "_law_wide", "_law_more"] (spF K 4 f__law_program) := by
  have sc := sc__law_program
  refine fn_J T.F__law_program sc rfl rfl (by decide) fun cdv A outer s H E hr => ?_
  exact (jss_cons (js_asg (jc_sh (je_var (i := 1) rfl (by first | exact Or.inl rfl | exact Or.inr (Or.inl rfl) | exact Or.inr (Or.inr rfl)))) (jg_tup rfl (jgs_cons (jg_name (i := 12) sc.nd rfl (by first | exact Or.inl rfl | exact Or.inr rfl)) (jgs_cons (jg_name (i := 13) sc.nd rfl (by first | exact Or.inl rfl | exact Or.inr rfl)) (jgs_cons (jg_name (i := 14) sc.nd rfl (by first | exact Or.inl rfl | exact Or.inr rfl)) jgs_nil)))))
    (jss_cons (js_asg (jc_sh (je_slice (je_var (i := 0) rfl (by first | exact Or.inl rfl | exact Or.inr (Or.inl rfl) | exact Or.inr (Or.inr rfl))) jp_none (jp_some je_int))) (jg_lst rfl (jgs_cons (jg_name (i := 15) sc.nd rfl (by first | exact Or.inl rfl | exact Or.inr rfl)) (jgs_cons (jg_name (i := 16) sc.nd rfl (by first | exact Or.inl rfl | exact Or.inr rfl)) jgs_nil))))
    (jss_cons (js_set (i := 4) sc.nd rfl (by first | exact Or.inl rfl | exact Or.inr rfl) (jc_sh (je_bin op_repN os_mulN (je_tup (ja_c (jc_sh (je_var (i := 15) rfl (by first | exact Or.inl rfl | exact Or.inr (Or.inl rfl) | exact Or.inr (Or.inr rfl)))) ja_nil)) (je_var (i := 2) rfl (by first | exact Or.inl rfl | exact Or.inr (Or.inl rfl) | exact Or.inr (Or.inr rfl))))))
    (jss_cons (js_set (i := 5) sc.nd rfl (by first | exact Or.inl rfl | exact Or.inr rfl) (jc_sh (je_bin op_repN os_mulN (je_tup (ja_c (jc_sh (je_var (i := 16) rfl (by first | exact Or.inl rfl | exact Or.inr (Or.inl rfl) | exact Or.inr (Or.inr rfl)))) ja_nil)) (je_var (i := 2) rfl (by first | exact Or.inl rfl | exact Or.inr (Or.inl rfl) | exact Or.inr (Or.inr rfl))))))
    (jss_cons (js_set (i := 6) sc.nd rfl (by first | exact Or.inl rfl | exact Or.inr rfl) (jc_sh (je_tup (ja_c (jc_sh (je_tup (ja_c (jc_sh je_str) (ja_c (jc_sh (je_tup (ja_c (jc_sh (je_tup (ja_c (jc_sh je_str) (ja_c (jc_sh je_int) ja_nil)))) ja_nil))) ja_nil)))) ja_nil))))
    (jss_cons (js_set (i := 7) sc.nd rfl (by first | exact Or.inl rfl | exact Or.inr rfl) (jc_sh (je_tup (ja_c (jc_sh (je_ix (je_var (i := 0) rfl (by first | exact Or.inl rfl | exact Or.inr (Or.inl rfl) | exact Or.inr (Or.inr rfl))) je_int (fun _ _ => rfl))) (ja_c (jc_sh (je_var (i := 4) rfl (by first | exact Or.inl rfl | exact Or.inr (Or.inl rfl) | exact Or.inr (Or.inr rfl)))) (ja_c (jc_sh (je_var (i := 4) rfl (by first | exact Or.inl rfl | exact Or.inr (Or.inl rfl) | exact Or.inr (Or.inr rfl)))) (ja_c (jc_sh (je_bin op_addA os_add (je_bin op_repN os_mulN (je_tup (ja_c (jc_sh (je_tup (ja_c (jc_sh je_str) (ja_c (jc_sh (je_var (i := 15) rfl (by first | exact Or.inl rfl | exact Or.inr (Or.inl rfl) | exact Or.inr (Or.inr rfl)))) ja_nil)))) ja_nil)) (je_var (i := 12) rfl (by first | exact Or.inl rfl | exact Or.inr (Or.inl rfl) | exact Or.inr (Or.inr rfl)))) (je_var (i := 6) rfl (by first | exact Or.inl rfl | exact Or.inr (Or.inl rfl) | exact Or.inr (Or.inr rfl))))) ja_nil)))))))
    (jss_cons (js_set (i := 8) sc.nd rfl (by first | exact Or.inl rfl | exact Or.inr rfl) (jc_sh (je_tup (ja_c (jc_sh (je_tup (ja_c (jc_sh je_str) (ja_c (jc_sh (je_tup (ja_c (jc_sh (je_tup (ja_c (jc_sh (je_tup (ja_c (jc_sh je_str) ja_nil))) ja_nil))) (ja_c (jc_sh (je_tup ja_nil)) ja_nil)))) ja_nil)))) ja_nil))))
    (jss_cons (js_set (i := 9) sc.nd rfl (by first | exact Or.inl rfl | exact Or.inr rfl) (jc_sh (je_tup (ja_c (jc_sh (je_ix (je_var (i := 0) rfl (by first | exact Or.inl rfl | exact Or.inr (Or.inl rfl) | exact Or.inr (Or.inr rfl))) je_int (fun _ _ => rfl))) (ja_c (jc_sh (je_tup ja_nil)) (ja_c (jc_sh (je_tup ja_nil)) (ja_c (jc_sh (je_bin op_addA os_add (je_var (i := 8) rfl (by first | exact Or.inl rfl | exact Or.inr (Or.inl rfl) | exact Or.inr (Or.inr rfl))) (je_bin op_repN os_mulN (je_tup (ja_c (jc_sh (je_tup (ja_c (jc_sh je_str) (ja_c (jc_sh (je_ix (je_var (i := 0) rfl (by first | exact Or.inl rfl | exact Or.inr (Or.inl rfl) | exact Or.inr (Or.inr rfl))) je_int (fun _ _ => rfl))) (ja_c (jc_sh (je_var (i := 4) rfl (by first | exact Or.inl rfl | exact Or.inr (Or.inl rfl) | exact Or.inr (Or.inr rfl)))) (ja_c (jc_sh (je_var (i := 5) rfl (by first | exact Or.inl rfl | exact Or.inr (Or.inl rfl) | exact Or.inr (Or.inr rfl)))) ja_nil)))))) ja_nil)) (je_var (i := 13) rfl (by first | exact Or.inl rfl | exact Or.inr (Or.inl rfl) | exact Or.inr (Or.inr rfl)))))) ja_nil)))))))
    (jss_cons (js_set (i := 10) sc.nd rfl (by first | exact Or.inl rfl | exact Or.inr rfl) (jc_sh (je_bin op_addA os_add (je_bin op_addA os_add (je_bin op_addA os_add je_int (je_var (i := 12) rfl (by first | exact Or.inl rfl | exact Or.inr (Or.inl rfl) | exact Or.inr (Or.inr rfl)))) je_int) (je_if (jt_cmp (op_eqA hr.units) os_eq (je_var (i := 2) rfl (by first | exact Or.inl rfl | exact Or.inr (Or.inl rfl) | exact Or.inr (Or.inr rfl))) je_int (nomark _)) je_int (je_bin op_addA os_add je_int je_int)))))
    (jss_cons (js_set (i := 11) sc.nd rfl (by first | exact Or.inl rfl | exact Or.inr rfl) (jc_sh (je_bin op_addA os_add (je_bin op_addA os_add (je_bin op_addA os_add je_int je_int) (je_bin op_mulA os_mul (je_var (i := 13) rfl (by first | exact Or.inl rfl | exact Or.inr (Or.inl rfl) | exact Or.inr (Or.inr rfl))) (je_var (i := 10) rfl (by first | exact Or.inl rfl | exact Or.inr (Or.inl rfl) | exact Or.inr (Or.inr rfl))))) (je_bin op_mulA os_mul je_int (je_bin op_addA os_add je_int (je_var (i := 2) rfl (by first | exact Or.inl rfl | exact Or.inr (Or.inl rfl) | exact Or.inr (Or.inr rfl))))))))
    (jss_cons (js_set (i := 8) sc.nd rfl (by first | exact Or.inl rfl | exact Or.inr rfl) (jc_sh (je_bin op_addA os_add (je_var (i := 6) rfl (by first | exact Or.inl rfl | exact Or.inr (Or.inl rfl) | exact Or.inr (Or.inr rfl))) (je_bin op_repN os_mulN (je_tup (ja_c (jc_sh (je_tup (ja_c (jc_sh je_str) (ja_c (jc_sh (je_var (i := 16) rfl (by first | exact Or.inl rfl | exact Or.inr (Or.inl rfl) | exact Or.inr (Or.inr rfl)))) ja_nil)))) ja_nil)) (je_bin op_sub os_sub (je_bin op_addA os_add je_int (je_var (i := 3) rfl (by first | exact Or.inl rfl | exact Or.inr (Or.inl rfl) | exact Or.inr (Or.inr rfl)))) (je_bin op_mulA os_mul (je_var (i := 14) rfl (by first | exact Or.inl rfl | exact Or.inr (Or.inl rfl) | exact Or.inr (Or.inr rfl))) (je_var (i := 11) rfl (by first | exact Or.inl rfl | exact Or.inr (Or.inl rfl) | exact Or.inr (Or.inr rfl)))))))))
    (jss_one (js_ret (jc_sh (je_tup (ja_c (jc_sh (je_tup (ja_c (jc_sh (je_var (i := 7) rfl (by first | exact Or.inl rfl | exact Or.inr (Or.inl rfl) | exact Or.inr (Or.inr rfl)))) (ja_c (jc_sh (je_var (i := 9) rfl (by first | exact Or.inl rfl | exact Or.inr (Or.inl rfl) | exact Or.inr (Or.inr rfl)))) ja_nil)))) (ja_c (jc_sh (je_bin op_addA os_add (je_var (i := 8) rfl (by first | exact Or.inl rfl | exact Or.inr (Or.inl rfl) | exact Or.inr (Or.inr rfl))) (je_bin op_repN os_mulN (je_tup (ja_c (jc_sh (je_tup (ja_c (jc_sh je_str) (ja_c (jc_sh (je_ix (je_var (i := 0) rfl (by first | exact Or.inl rfl | exact Or.inr (Or.inl rfl) | exact Or.inr (Or.inr rfl))) je_int (fun _ _ => rfl))) (ja_c (jc_sh (je_tup ja_nil)) (ja_c (jc_sh (je_tup ja_nil)) ja_nil)))))) ja_nil)) (je_var (i := 14) rfl (by first | exact Or.inl rfl | exact Or.inr (Or.inl rfl) | exact Or.inr (Or.inr rfl)))))) ja_nil)))))))))))))))))
theorem ok_law (T : Tx w K mg) : FnOk P w K mg base CX0 46 T.a_law T.d_law ["_law_script"] (spF K 1 f_law) := by
  have sc := sc_law
  refine fn_J T.F_law sc rfl rfl (by decide) fun cdv A outer s H E hr => ?_
  exact (jss_cons (js_for PassesOwn.never rfl (ji_range1 (by rfl) T.z_range (je_callB (call_max2 rfl) (cs_II (f := fun i j => if j > i then j else i)) (by rfl) T.z_max (by decide +kernel) (ja_c (jc_sh je_int) (ja_c (jc_sh (je_callB (call_min2 rfl) (cs_II (f := fun i j => if j < i then j else i)) (by rfl) T.z_min (by decide +kernel) (ja_c (jc_sh (je_callB call_lenA cs_len (by rfl) T.z_len (by decide +kernel) (ja_c (jc_sh (je_var (i := 0) rfl (by first | exact Or.inl rfl | exact Or.inr (Or.inl rfl) | exact Or.inr (Or.inr rfl)))) ja_nil))) (ja_c (jc_sh je_int) ja_nil)))) ja_nil)))) (jg_name (i := 1) sc.nd rfl (by first | exact Or.inl rfl | exact Or.inr rfl))
    (jss_cons (js_set (i := 2) sc.nd rfl (by first | exact Or.inl rfl | exact Or.inr rfl) (jc_lo (jl_cell (jc_call (ok__law_deck T) rfl (hr.mono (by decide)) (by rfl) T.g__law_deck T.F__law_deck.kp T.b__law_deck (ja_c (jc_sh (je_var (i := 0) rfl (by first | exact Or.inl rfl | exact Or.inr (Or.inl rfl) | exact Or.inr (Or.inr rfl)))) (ja_c (jc_sh (je_var (i := 1) rfl (by first | exact Or.inl rfl | exact Or.inr (Or.inl rfl) | exact Or.inr (Or.inr rfl)))) ja_nil))))))
    (jss_cons (js_set (i := 3) sc.nd rfl (by first | exact Or.inl rfl | exact Or.inr rfl) (jc_sh (je_cell (jc_call (ok__law_names T) rfl (hr.mono (by decide)) (by rfl) T.g__law_names T.F__law_names.kp T.b__law_names (ja_c (jc_lo (jl_var (i := 2) rfl (by first | exact Or.inl rfl | exact Or.inr (Or.inl rfl) | exact Or.inr (Or.inr rfl)))) (ja_c (jc_sh je_int) ja_nil))))))
    (jss_cons (js_set (i := 4) sc.nd rfl (by first | exact Or.inl rfl | exact Or.inr rfl) (jc_sh (je_cell (jc_call (ok__law_draw T) rfl (hr.mono (by decide)) (by rfl) T.g__law_draw T.F__law_draw.kp T.b__law_draw (ja_c (jc_lo (jl_var (i := 2) rfl (by first | exact Or.inl rfl | exact Or.inr (Or.inl rfl) | exact Or.inr (Or.inr rfl)))) (ja_c (jc_sh je_int) ja_nil))))))
    (jss_cons (js_set (i := 5) sc.nd rfl (by first | exact Or.inl rfl | exact Or.inr rfl) (jc_sh (je_ix (je_lst (ja_c (jc_sh (je_tup (ja_c (jc_sh je_int) (ja_c (jc_sh je_int) (ja_c (jc_sh je_int) ja_nil))))) (ja_c (jc_sh (je_tup (ja_c (jc_sh je_int) (ja_c (jc_sh je_int) (ja_c (jc_sh je_int) ja_nil))))) (ja_c (jc_sh (je_tup (ja_c (jc_sh je_int) (ja_c (jc_sh je_int) (ja_c (jc_sh je_int) ja_nil))))) (ja_c (jc_sh (je_tup (ja_c (jc_sh je_int) (ja_c (jc_sh je_int) (ja_c (jc_sh je_int) ja_nil))))) (ja_c (jc_sh (je_tup (ja_c (jc_sh je_int) (ja_c (jc_sh je_int) (ja_c (jc_sh je_int) ja_nil))))) ja_nil)))))) (je_cell (jc_call (ok__law_draw T) rfl (hr.mono (by decide)) (by rfl) T.g__law_draw T.F__law_draw.kp T.b__law_draw (ja_c (jc_lo (jl_var (i := 2) rfl (by first | exact Or.inl rfl | exact Or.inr (Or.inl rfl) | exact Or.inr (Or.inr rfl)))) (ja_c (jc_sh je_int) ja_nil)))) (fun _ _ => rfl))))
    (jss_cons (js_if (jt_cmp (op_eqA hr.units) os_eq (je_var (i := 4) rfl (by first | exact Or.inl rfl | exact Or.inr (Or.inl rfl) | exact Or.inr (Or.inr rfl))) je_int (nomark _))
    (jss_one (js_set (i := 5) sc.nd rfl (by first | exact Or.inl rfl | exact Or.inr rfl) (jc_sh (je_ix (je_lst (ja_c (jc_sh (je_tup (ja_c (jc_sh je_int) (ja_c (jc_sh je_int) (ja_c (jc_sh je_int) ja_nil))))) (ja_c (jc_sh (je_tup (ja_c (jc_sh je_int) (ja_c (jc_sh je_int) (ja_c (jc_sh je_int) ja_nil))))) (ja_c (jc_sh (je_tup (ja_c (jc_sh je_int) (ja_c (jc_sh je_int) (ja_c (jc_sh je_int) ja_nil))))) (ja_c (jc_sh (je_tup (ja_c (jc_sh je_int) (ja_c (jc_sh je_int) (ja_c (jc_sh je_int) ja_nil))))) ja_nil))))) (je_cell (jc_call (ok__law_draw T) rfl (hr.mono (by decide)) (by rfl) T.g__law_draw T.F__law_draw.kp T.b__law_draw (ja_c (jc_lo (jl_var (i := 2) rfl (by first | exact Or.inl rfl | exact Or.inr (Or.inl rfl) | exact Or.inr (Or.inr rfl)))) (ja_c (jc_sh je_int) ja_nil)))) (fun _ _ => rfl)))))
    jss_nil)
    (jss_cons (js_for PassesOwn.never rfl (ji_any (je_lst (ja_c (jc_sh (je_tup (ja_c (jc_sh je_int) (ja_c (jc_sh je_int) ja_nil)))) (ja_c (jc_sh (je_tup (ja_c (jc_sh je_int) (ja_c (jc_sh je_str) ja_nil)))) (ja_c (jc_sh (je_tup (ja_c (jc_sh (je_bin op_addA os_add je_int (je_cell (jc_call (ok__law_draw T) rfl (hr.mono (by decide)) (by rfl) T.g__law_draw T.F__law_draw.kp T.b__law_draw (ja_c (jc_lo (jl_var (i := 2) rfl (by first | exact Or.inl rfl | exact Or.inr (Or.inl rfl) | exact Or.inr (Or.inr rfl)))) (ja_c (jc_sh je_int) ja_nil)))))) (ja_c (jc_sh je_str) ja_nil)))) ja_nil))))) (jg_tup rfl (jgs_cons (jg_name (i := 8) sc.nd rfl (by first | exact Or.inl rfl | exact Or.inr rfl)) (jgs_cons (jg_name (i := 9) sc.nd rfl (by first | exact Or.inl rfl | exact Or.inr rfl)) jgs_nil)))
    (jss_cons (js_set (i := 7) sc.nd rfl (by first | exact Or.inl rfl | exact Or.inr rfl) (jc_sh (je_cell (jc_call (ok__law_program T) rfl (hr.mono (by decide)) (by rfl) T.g__law_program T.F__law_program.kp T.b__law_program (ja_c (jc_sh (je_var (i := 3) rfl (by first | exact Or.inl rfl | exact Or.inr (Or.inl rfl) | exact Or.inr (Or.inr rfl)))) (ja_c (jc_sh (je_var (i := 5) rfl (by first | exact Or.inl rfl | exact Or.inr (Or.inl rfl) | exact Or.inr (Or.inr rfl)))) (ja_c (jc_sh (je_var (i := 4) rfl (by first | exact Or.inl rfl | exact Or.inr (Or.inl rfl) | exact Or.inr (Or.inr rfl)))) (ja_c (jc_sh (je_var (i := 8) rfl (by first | exact Or.inl rfl | exact Or.inr (Or.inl rfl) | exact Or.inr (Or.inr rfl)))) ja_nil))))))))
    (jss_one (js_if (PW.pt (jw_or (jt_cmp (op_neA hr.units) os_ne (je_cell (jc_call (ok__law_told T) rfl (hr.mono (by decide)) (by rfl) T.g__law_told T.F__law_told.kp T.b__law_told (ja_c (jc_sh (je_var (i := 7) rfl (by first | exact Or.inl rfl | exact Or.inr (Or.inl rfl) | exact Or.inr (Or.inr rfl)))) ja_nil))) (je_var (i := 9) rfl (by first | exact Or.inl rfl | exact Or.inr (Or.inl rfl) | exact Or.inr (Or.inr rfl))) (nomark _)) (jw_or1 (jt_cmp (op_neA hr.units) os_ne (je_cell (jc_call (ok__law_told T) rfl (hr.mono (by decide)) (by rfl) T.g__law_told T.F__law_told.kp T.b__law_told (ja_c (jc_sh (je_var (i := 7) rfl (by first | exact Or.inl rfl | exact Or.inr (Or.inl rfl) | exact Or.inr (Or.inr rfl)))) ja_nil))) (je_var (i := 9) rfl (by first | exact Or.inl rfl | exact Or.inr (Or.inl rfl) | exact Or.inr (Or.inr rfl))) (nomark _)))))
    (jss_one (js_ret (jc_sh je_bl)))
    jss_nil))))
    (jss_cons (js_set (i := 6) sc.nd rfl (by first | exact Or.inl rfl | exact Or.inr rfl) (jc_sh (je_tup (ja_c (jc_sh (je_tup (ja_c (jc_sh (je_ix (je_var (i := 3) rfl (by first | exact Or.inl rfl | exact Or.inr (Or.inl rfl) | exact Or.inr (Or.inr rfl))) je_int (fun _ _ => rfl))) (ja_c (jc_sh (je_tup ja_nil)) (ja_c (jc_sh (je_tup ja_nil)) (ja_c (jc_sh (je_bin op_repN os_mulN (je_tup (ja_c (jc_sh (je_tup (ja_c (jc_sh je_str) (ja_c (jc_sh (je_ix (je_var (i := 3) rfl (by first | exact Or.inl rfl | exact Or.inr (Or.inl rfl) | exact Or.inr (Or.inr rfl))) je_int (fun _ _ => rfl))) ja_nil)))) ja_nil)) je_int)) ja_nil)))))) ja_nil))))
    (jss_cons (js_set (i := 6) sc.nd rfl (by first | exact Or.inl rfl | exact Or.inr rfl) (jc_sh (je_bin op_addA os_add (je_var (i := 6) rfl (by first | exact Or.inl rfl | exact Or.inr (Or.inl rfl) | exact Or.inr (Or.inr rfl))) (je_tup (ja_c (jc_sh (je_tup (ja_c (jc_sh (je_ix (je_var (i := 3) rfl (by first | exact Or.inl rfl | exact Or.inr (Or.inl rfl) | exact Or.inr (Or.inr rfl))) je_int (fun _ _ => rfl))) (ja_c (jc_sh (je_tup ja_nil)) (ja_c (jc_sh (je_tup ja_nil)) (ja_c (jc_sh (je_bin op_repN os_mulN (je_tup (ja_c (jc_sh (je_tup (ja_c (jc_sh je_str) (ja_c (jc_sh (je_ix (je_var (i := 3) rfl (by first | exact Or.inl rfl | exact Or.inr (Or.inl rfl) | exact Or.inr (Or.inr rfl))) je_int (fun _ _ => rfl))) (ja_c (jc_sh (je_tup ja_nil)) (ja_c (jc_sh (je_tup ja_nil)) ja_nil)))))) ja_nil)) je_int)) ja_nil)))))) ja_nil)))))
    (jss_cons (js_set (i := 6) sc.nd rfl (by first | exact Or.inl rfl | exact Or.inr rfl) (jc_sh (je_bin op_addA os_add (je_var (i := 6) rfl (by first | exact Or.inl rfl | exact Or.inr (Or.inl rfl) | exact Or.inr (Or.inr rfl))) (je_tup (ja_c (jc_sh (je_tup (ja_c (jc_sh je_str) (ja_c (jc_sh (je_tup ja_nil)) (ja_c (jc_sh (je_tup ja_nil)) (ja_c (jc_sh (je_bin op_repN os_mulN (je_tup (ja_c (jc_sh (je_tup (ja_c (jc_sh je_str) (ja_c (jc_sh (je_ix (je_var (i := 3) rfl (by first | exact Or.inl rfl | exact Or.inr (Or.inl rfl) | exact Or.inr (Or.inr rfl))) je_int (fun _ _ => rfl))) (ja_c (jc_sh (je_tup ja_nil)) (ja_c (jc_sh (je_tup ja_nil)) ja_nil)))))) ja_nil)) je_int)) ja_nil)))))) ja_nil)))))
    (jss_cons (js_set (i := 7) sc.nd rfl (by first | exact Or.inl rfl | exact Or.inr rfl) (jc_sh (je_tup (ja_c (jc_sh (je_var (i := 6) rfl (by first | exact Or.inl rfl | exact Or.inr (Or.inl rfl) | exact Or.inr (Or.inr rfl)))) (ja_c (jc_sh (je_bin op_repN os_mulN (je_tup (ja_c (jc_sh (je_tup (ja_c (jc_sh je_str) (ja_c (jc_sh je_str) (ja_c (jc_sh (je_tup ja_nil)) (ja_c (jc_sh (je_tup ja_nil)) ja_nil)))))) ja_nil)) je_int)) ja_nil)))))
    (jss_one (js_if (jt_cmp (op_neA hr.units) os_ne (je_cell (jc_call (ok__law_told T) rfl (hr.mono (by decide)) (by rfl) T.g__law_told T.F__law_told.kp T.b__law_told (ja_c (jc_sh (je_var (i := 7) rfl (by first | exact Or.inl rfl | exact Or.inr (Or.inl rfl) | exact Or.inr (Or.inr rfl)))) ja_nil))) je_str (nomark _))
    (jss_one (js_ret (jc_sh je_bl)))
    jss_nil)))))))))))))
    (jss_one (js_ret (jc_sh je_bl))))
end
end Ds.K41
namespace Ds.K41
open PySem PySem.Spec PyProof.Rows L2 Dn
theorem all_mk {l : PySem.W.OpenLaw} {w : World} {K : Frag} {h : Heap} {mg : Str → Option Value} {fa f0 f1 f2 f3 f4 f5 f6 f7 f8 f9 f10 f11 f12 f13 f14 f15 f16 f17 f18 f19 f20 f21 f22 f23 f24 : Addr} {E0 E1 E2 E3 E4 E5 E6 : Addr} {C0 : Addr} {od0 an0 : Option Addr} {sl0 : Array (Option Value)} {oc0 kV0 dc0 pm0 cd0 ct0 : Value} {od1 an1 : Option Addr} {sl1 : Array (Option Value)} {oc1 kV1 dc1 pm1 cd1 ct1 : Value} {od2 an2 : Option Addr} {sl2 : Array (Option Value)} {oc2 kV2 dc2 pm2 cd2 ct2 : Value} {od3 an3 : Option Addr} {sl3 : Array (Option Value)} {oc3 kV3 dc3 pm3 cd3 ct3 : Value} {od4 an4 : Option Addr} {sl4 : Array (Option Value)} {oc4 kV4 dc4 pm4 cd4 ct4 : Value} {od5 an5 : Option Addr} {sl5 : Array (Option Value)} {oc5 kV5 dc5 pm5 cd5 ct5 : Value} {od6 an6 : Option Addr} {sl6 : Array (Option Value)} {oc6 kV6 dc6 pm6 cd6 ct6 : Value} {od7 an7 : Option Addr} {sl7 : Array (Option Value)} {oc7 kV7 dc7 pm7 cd7 ct7 : Value} {od8 an8 : Option Addr} {sl8 : Array (Option Value)} {oc8 kV8 dc8 pm8 cd8 ct8 : Value} {od9 an9 : Option Addr} {sl9 : Array (Option Value)} {oc9 kV9 dc9 pm9 cd9 ct9 : Value} {od10 an10 : Option Addr} {sl10 : Array (Option Value)} {oc10 kV10 dc10 pm10 cd10 ct10 : Value} {od11 an11 : Option Addr} {sl11 : Array (Option Value)} {oc11 kV11 dc11 pm11 cd11 ct11 : Value} {od12 an12 : Option Addr} {sl12 : Array (Option Value)} {oc12 kV12 dc12 pm12 cd12 ct12 : Value} {od13 an13 : Option Addr} {sl13 : Array (Option Value)} {oc13 kV13 dc13 pm13 cd13 ct13 : Value} {od14 an14 : Option Addr} {sl14 : Array (Option Value)} {oc14 kV14 dc14 pm14 cd14 ct14 : Value} {od15 an15 : Option Addr} {sl15 : Array (Option Value)} {oc15 kV15 dc15 pm15 cd15 ct15 : Value} {od16 an16 : Option Addr} {sl16 : Array (Option Value)} {oc16 kV16 dc16 pm16 cd16 ct16 : Value} {od17 an17 : Option Addr} {sl17 : Array (Option Value)} {oc17 kV17 dc17 pm17 cd17 ct17 : Value} {od18 an18 : Option Addr} {sl18 : Array (Option Value)} {oc18 kV18 dc18 pm18 cd18 ct18 : Value} {od19 an19 : Option Addr} {sl19 : Array (Option Value)} {oc19 kV19 dc19 pm19 cd19 ct19 : Value} {od20 an20 : Option Addr} {sl20 : Array (Option Value)} {oc20 kV20 dc20 pm20 cd20 ct20 : Value} {od21 an21 : Option Addr} {sl21 : Array (Option Value)} {oc21 kV21 dc21 pm21 cd21 ct21 : Value} {od22 an22 : Option Addr} {sl22 : Array (Option Value)} {oc22 kV22 dc22 pm22 cd22 ct22 : Value} {od23 an23 : Option Addr} {sl23 : Array (Option Value)} {oc23 kV23 dc23 pm23 cd23 ct23 : Value} {od24 an24 : Option Addr} {sl24 : Array (Option Value)} {oc24 kV24 dc24 pm24 cd24 ct24 : Value} {tk0 : Tok} {tk1 : Tok} {tk2 : Tok} {tk3 : Tok} {q4 : Addr} {dd4 : Option Addr} {it4 : Array Value} {nn4 : Nat} {ss4 : Array (Option Value)} {kq0 : Addr} {ke0 : Array DictEntry} {kn0 : Nat} (X : K.In h) (G : h.Ns mainGlobals mg) (hfa : mg "law" = some (.ref fa))
    (a0 : PySem.W.nsIn K mainGlobals "is_name" = some (some (.ref f0)))
    (l0 : K.lookup f0 = some ⟨oc0, od0, .func (PySem.W.fnOf "is_name" "is_name" (defArgs s_is_name) (defBody s_is_name) (defScope s_is_name) .none kV0 dc0 pm0 an0 cd0 ct0), sl0⟩)
    (c0 : PySem.W.codeIn K cd0 "is_name" = true)
    (k0 : PySem.W.keepIn K (.ref f0) = true)
    (a1 : PySem.W.nsIn K mainGlobals "first_name" = some (some (.ref f1)))
    (l1 : K.lookup f1 = some ⟨oc1, od1, .func (PySem.W.fnOf "first_name" "first_name" (defArgs s_first_name) (defBody s_first_name) (defScope s_first_name) .none kV1 dc1 pm1 an1 cd1 ct1), sl1⟩)
    (c1 : PySem.W.codeIn K cd1 "first_name" = true)
    (k1 : PySem.W.keepIn K (.ref f1) = true)
    (a2 : PySem.W.nsIn K mainGlobals "rows_in" = some (some (.ref f2)))
    (l2 : K.lookup f2 = some ⟨oc2, od2, .func (PySem.W.fnOf "rows_in" "rows_in" (defArgs s_rows_in) (defBody s_rows_in) (defScope s_rows_in) .none kV2 dc2 pm2 an2 cd2 ct2), sl2⟩)
    (c2 : PySem.W.codeIn K cd2 "rows_in" = true)
    (k2 : PySem.W.keepIn K (.ref f2) = true)
    (a3 : PySem.W.nsIn K mainGlobals "def_of" = some (some (.ref f3)))
    (l3 : K.lookup f3 = some ⟨oc3, od3, .func (PySem.W.fnOf "def_of" "def_of" (defArgs s_def_of) (defBody s_def_of) (defScope s_def_of) .none kV3 dc3 pm3 an3 cd3 ct3), sl3⟩)
    (c3 : PySem.W.codeIn K cd3 "def_of" = true)
    (k3 : PySem.W.keepIn K (.ref f3) = true)
    (a4 : PySem.W.nsIn K mainGlobals "boxes_of" = some (some (.ref f4)))
    (l4 : K.lookup f4 = some ⟨oc4, od4, .func (PySem.W.fnOf "boxes_of" "boxes_of" (defArgs s_boxes_of) (defBody s_boxes_of) (defScope s_boxes_of) .none kV4 dc4 pm4 an4 cd4 ct4), sl4⟩)
    (c4 : PySem.W.codeIn K cd4 "boxes_of" = true)
    (k4 : PySem.W.keepIn K (.ref f4) = true)
    (a5 : PySem.W.nsIn K mainGlobals "boxes_in" = some (some (.ref f5)))
    (l5 : K.lookup f5 = some ⟨oc5, od5, .func (PySem.W.fnOf "boxes_in" "boxes_in" (defArgs s_boxes_in) (defBody s_boxes_in) (defScope s_boxes_in) .none kV5 dc5 pm5 an5 cd5 ct5), sl5⟩)
    (c5 : PySem.W.codeIn K cd5 "boxes_in" = true)
    (k5 : PySem.W.keepIn K (.ref f5) = true)
    (a6 : PySem.W.nsIn K mainGlobals "names_in" = some (some (.ref f6)))
    (l6 : K.lookup f6 = some ⟨oc6, od6, .func (PySem.W.fnOf "names_in" "names_in" (defArgs s_names_in) (defBody s_names_in) (defScope s_names_in) .none kV6 dc6 pm6 an6 cd6 ct6), sl6⟩)
    (c6 : PySem.W.codeIn K cd6 "names_in" = true)
    (k6 : PySem.W.keepIn K (.ref f6) = true)
    (a7 : PySem.W.nsIn K mainGlobals "names_within" = some (some (.ref f7)))
    (l7 : K.lookup f7 = some ⟨oc7, od7, .func (PySem.W.fnOf "names_within" "names_within" (defArgs s_names_within) (defBody s_names_within) (defScope s_names_within) .none kV7 dc7 pm7 an7 cd7 ct7), sl7⟩)
    (c7 : PySem.W.codeIn K cd7 "names_within" = true)
    (k7 : PySem.W.keepIn K (.ref f7) = true)
    (a8 : PySem.W.nsIn K mainGlobals "name_by" = some (some (.ref f8)))
    (l8 : K.lookup f8 = some ⟨oc8, od8, .func (PySem.W.fnOf "name_by" "name_by" (defArgs s_name_by) (defBody s_name_by) (defScope s_name_by) .none kV8 dc8 pm8 an8 cd8 ct8), sl8⟩)
    (c8 : PySem.W.codeIn K cd8 "name_by" = true)
    (k8 : PySem.W.keepIn K (.ref f8) = true)
    (a9 : PySem.W.nsIn K mainGlobals "renamed" = some (some (.ref f9)))
    (l9 : K.lookup f9 = some ⟨oc9, od9, .func (PySem.W.fnOf "renamed" "renamed" (defArgs s_renamed) (defBody s_renamed) (defScope s_renamed) .none kV9 dc9 pm9 an9 cd9 ct9), sl9⟩)
    (c9 : PySem.W.codeIn K cd9 "renamed" = true)
    (k9 : PySem.W.keepIn K (.ref f9) = true)
    (a10 : PySem.W.findIn K (.ref C0) "__init__" = some (some (.ref f10)))
    (i10 : PySem.W.isFn K (.ref f10) = true)
    (l10 : K.lookup f10 = some ⟨oc10, od10, .func (PySem.W.fnOf "__init__" "Placing.__init__" (defArgs s_Placing___init__) (defBody s_Placing___init__) (defScope s_Placing___init__) .none kV10 dc10 pm10 an10 cd10 ct10), sl10⟩)
    (c10 : PySem.W.codeIn K cd10 "Placing.__init__" = true)
    (k10 : PySem.W.keepIn K (.ref f10) = true)
    (a11 : PySem.W.findIn K (.ref C0) "fresh_name" = some (some (.ref f11)))
    (i11 : PySem.W.isFn K (.ref f11) = true)
    (l11 : K.lookup f11 = some ⟨oc11, od11, .func (PySem.W.fnOf "fresh_name" "Placing.fresh_name" (defArgs s_Placing_fresh_name) (defBody s_Placing_fresh_name) (defScope s_Placing_fresh_name) .none kV11 dc11 pm11 an11 cd11 ct11), sl11⟩)
    (c11 : PySem.W.codeIn K cd11 "Placing.fresh_name" = true)
    (k11 : PySem.W.keepIn K (.ref f11) = true)
    (a12 : PySem.W.findIn K (.ref C0) "tally" = some (some (.ref f12)))
    (i12 : PySem.W.isFn K (.ref f12) = true)
    (l12 : K.lookup f12 = some ⟨oc12, od12, .func (PySem.W.fnOf "tally" "Placing.tally" (defArgs s_Placing_tally) (defBody s_Placing_tally) (defScope s_Placing_tally) .none kV12 dc12 pm12 an12 cd12 ct12), sl12⟩)
    (c12 : PySem.W.codeIn K cd12 "Placing.tally" = true)
    (k12 : PySem.W.keepIn K (.ref f12) = true)
    (a13 : PySem.W.findIn K (.ref C0) "put_leaving" = some (some (.ref f13)))
    (i13 : PySem.W.isFn K (.ref f13) = true)
    (l13 : K.lookup f13 = some ⟨oc13, od13, .func (PySem.W.fnOf "put_leaving" "Placing.put_leaving" (defArgs s_Placing_put_leaving) (defBody s_Placing_put_leaving) (defScope s_Placing_put_leaving) .none kV13 dc13 pm13 an13 cd13 ct13), sl13⟩)
    (c13 : PySem.W.codeIn K cd13 "Placing.put_leaving" = true)
    (k13 : PySem.W.keepIn K (.ref f13) = true)
    (a14 : PySem.W.findIn K (.ref C0) "put_row" = some (some (.ref f14)))
    (i14 : PySem.W.isFn K (.ref f14) = true)
    (l14 : K.lookup f14 = some ⟨oc14, od14, .func (PySem.W.fnOf "put_row" "Placing.put_row" (defArgs s_Placing_put_row) (defBody s_Placing_put_row) (defScope s_Placing_put_row) .none kV14 dc14 pm14 an14 cd14 ct14), sl14⟩)
    (c14 : PySem.W.codeIn K cd14 "Placing.put_row" = true)
    (k14 : PySem.W.keepIn K (.ref f14) = true)
    (a15 : PySem.W.findIn K (.ref C0) "put_word" = some (some (.ref f15)))
    (i15 : PySem.W.isFn K (.ref f15) = true)
    (l15 : K.lookup f15 = some ⟨oc15, od15, .func (PySem.W.fnOf "put_word" "Placing.put_word" (defArgs s_Placing_put_word) (defBody s_Placing_put_word) (defScope s_Placing_put_word) .none kV15 dc15 pm15 an15 cd15 ct15), sl15⟩)
    (c15 : PySem.W.codeIn K cd15 "Placing.put_word" = true)
    (k15 : PySem.W.keepIn K (.ref f15) = true)
    (a16 : PySem.W.findIn K (.ref C0) "put_call" = some (some (.ref f16)))
    (i16 : PySem.W.isFn K (.ref f16) = true)
    (l16 : K.lookup f16 = some ⟨oc16, od16, .func (PySem.W.fnOf "put_call" "Placing.put_call" (defArgs s_Placing_put_call) (defBody s_Placing_put_call) (defScope s_Placing_put_call) .none kV16 dc16 pm16 an16 cd16 ct16), sl16⟩)
    (c16 : PySem.W.codeIn K cd16 "Placing.put_call" = true)
    (k16 : PySem.W.keepIn K (.ref f16) = true)
    (a17 : PySem.W.nsIn K mainGlobals "in_place" = some (some (.ref f17)))
    (l17 : K.lookup f17 = some ⟨oc17, od17, .func (PySem.W.fnOf "in_place" "in_place" (defArgs s_in_place) (defBody s_in_place) (defScope s_in_place) .none kV17 dc17 pm17 an17 cd17 ct17), sl17⟩)
    (c17 : PySem.W.codeIn K cd17 "in_place" = true)
    (k17 : PySem.W.keepIn K (.ref f17) = true)
    (a18 : PySem.W.nsIn K mainGlobals "_law_deck" = some (some (.ref f18)))
    (l18 : K.lookup f18 = some ⟨oc18, od18, .func (PySem.W.fnOf "_law_deck" "_law_deck" (defArgs s__law_deck) (defBody s__law_deck) (defScope s__law_deck) .none kV18 dc18 pm18 an18 cd18 ct18), sl18⟩)
    (c18 : PySem.W.codeIn K cd18 "_law_deck" = true)
    (k18 : PySem.W.keepIn K (.ref f18) = true)
    (a19 : PySem.W.nsIn K mainGlobals "_law_draw" = some (some (.ref f19)))
    (l19 : K.lookup f19 = some ⟨oc19, od19, .func (PySem.W.fnOf "_law_draw" "_law_draw" (defArgs s__law_draw) (defBody s__law_draw) (defScope s__law_draw) .none kV19 dc19 pm19 an19 cd19 ct19), sl19⟩)
    (c19 : PySem.W.codeIn K cd19 "_law_draw" = true)
    (k19 : PySem.W.keepIn K (.ref f19) = true)
    (a20 : PySem.W.nsIn K mainGlobals "_law_names" = some (some (.ref f20)))
    (l20 : K.lookup f20 = some ⟨oc20, od20, .func (PySem.W.fnOf "_law_names" "_law_names" (defArgs s__law_names) (defBody s__law_names) (defScope s__law_names) .none kV20 dc20 pm20 an20 cd20 ct20), sl20⟩)
    (c20 : PySem.W.codeIn K cd20 "_law_names" = true)
    (k20 : PySem.W.keepIn K (.ref f20) = true)
    (a21 : PySem.W.nsIn K mainGlobals "_law_counted" = some (some (.ref f21)))
    (l21 : K.lookup f21 = some ⟨oc21, od21, .func (PySem.W.fnOf "_law_counted" "_law_counted" (defArgs s__law_counted) (defBody s__law_counted) (defScope s__law_counted) .none kV21 dc21 pm21 an21 cd21 ct21), sl21⟩)
    (c21 : PySem.W.codeIn K cd21 "_law_counted" = true)
    (k21 : PySem.W.keepIn K (.ref f21) = true)
    (a22 : PySem.W.nsIn K mainGlobals "_law_told" = some (some (.ref f22)))
    (l22 : K.lookup f22 = some ⟨oc22, od22, .func (PySem.W.fnOf "_law_told" "_law_told" (defArgs s__law_told) (defBody s__law_told) (defScope s__law_told) .none kV22 dc22 pm22 an22 cd22 ct22), sl22⟩)
    (c22 : PySem.W.codeIn K cd22 "_law_told" = true)
    (k22 : PySem.W.keepIn K (.ref f22) = true)
    (a23 : PySem.W.nsIn K mainGlobals "_law_program" = some (some (.ref f23)))
    (l23 : K.lookup f23 = some ⟨oc23, od23, .func (PySem.W.fnOf "_law_program" "_law_program" (defArgs s__law_program) (defBody s__law_program) (defScope s__law_program) .none kV23 dc23 pm23 an23 cd23 ct23), sl23⟩)
    (c23 : PySem.W.codeIn K cd23 "_law_program" = true)
    (k23 : PySem.W.keepIn K (.ref f23) = true)
    (a24 : PySem.W.nsIn K mainGlobals "law" = some (some (.ref f24)))
    (l24 : K.lookup f24 = some ⟨oc24, od24, .func (PySem.W.fnOf "law" "law" (defArgs s_law) (defBody s_law) (defScope s_law) .none kV24 dc24 pm24 an24 cd24 ct24), sl24⟩)
    (c24 : PySem.W.codeIn K cd24 "law" = true)
    (k24 : PySem.W.keepIn K (.ref f24) = true)
    (A0 : PySem.W.nsIn K mainGlobals "Placing" = some (some (.ref C0)))
    (pg0 : PySem.W.plainGet K C0 Str.empty = true)
    (hd0 : PySem.W.hasDictIn K C0 = true)
    (po0 : PySem.W.plainOver K C0 = true)
    (mk0 : PySem.W.makesIn K C0 = true)
    (kc0 : PySem.W.keepIn K (.ref C0) = true)
    (sa0 : PySem.W.findIn K (.ref C0) "__setattr__" = some (some (.builtin "object.__setattr__")))
    (na0_0 : PySem.W.findIn K (.ref C0) "names_made" = some none)
    (na0_1 : PySem.W.findIn K (.ref C0) "standing" = some none)
    (na0_2 : PySem.W.findIn K (.ref C0) "whole" = some none)
    (na0_3 : PySem.W.findIn K (.ref C0) "words_made" = some none)
    (z0 : PySem.W.nsIn K mainGlobals "ValueError" = some none)
    (z1 : PySem.W.nsIn K mainGlobals "all" = some none)
    (z2 : PySem.W.nsIn K mainGlobals "int" = some none)
    (z3 : PySem.W.nsIn K mainGlobals "isinstance" = some none)
    (z4 : PySem.W.nsIn K mainGlobals "len" = some none)
    (z5 : PySem.W.nsIn K mainGlobals "list" = some none)
    (z6 : PySem.W.nsIn K mainGlobals "max" = some none)
    (z7 : PySem.W.nsIn K mainGlobals "min" = some none)
    (z8 : PySem.W.nsIn K mainGlobals "range" = some none)
    (z9 : PySem.W.nsIn K mainGlobals "set" = some none)
    (z10 : PySem.W.nsIn K mainGlobals "sorted" = some none)
    (z11 : PySem.W.nsIn K mainGlobals "str" = some none)
    (z12 : PySem.W.nsIn K mainGlobals "sum" = some none)
    (z13 : PySem.W.nsIn K mainGlobals "tuple" = some none)
    (z14 : PySem.W.nsIn K mainGlobals "zip" = some none)
    (y0 : PySem.W.nsIn K mainGlobals "LETTERS_inplace" = some (some (.str "abcdefghijklmnopqrstuvwxyz" tk0)))
    (y1 : PySem.W.nsIn K mainGlobals "LETTERS_names" = some (some (.str "abcdefghijklmnopqrstuvwxyz" tk1)))
    (y2 : PySem.W.nsIn K mainGlobals "LONGEST" = some (some (.int 8 tk2)))
    (y3 : PySem.W.nsIn K mainGlobals "MOST_WORDS" = some (some (.int 300 tk3)))
    (y4 : PySem.W.nsIn K mainGlobals "TONGUE" = some (some (.ref q4)))
    (yl4 : K.lookup q4 = some ⟨.type "tuple", dd4, .seq it4 nn4, ss4⟩)
    (yv4 : Vals [V.str "take", V.str "ask", V.str "number", V.str "copy", V.str "mix", V.str "open", V.str "tell", V.str "wipe", V.str "clear", V.str "drop", V.str "choose", V.str "loop", V.str "out", V.str "risk", V.str "fault", V.str "call", V.str "back", V.str "def", V.str "main"] it4.toList)
    (x0 : PySem.W.nsIn K mainGlobals "MANY_BOXES" = some (some (.ref kq0)))
    (xl0 : K.lookup kq0 = some ⟨.type "dict", none, .dict ke0 kn0, #[]⟩)
    (xk0 : PySem.W.KeysLit w.params ke0.toList)
    (xe0 : KKeys ke0.toList k_MANY_BOXES)
    (xo0 : (kq0 == sysModules) = false)
    (en0 : PySem.W.nsIn K mainGlobals "NoAnswer" = some (some (.ref E0)))
    (en1 : PySem.W.nsIn K mainGlobals "NoCode" = some (some (.ref E1)))
    (en2 : PySem.W.nsIn K mainGlobals "NoRow" = some (some (.ref E2)))
    (en3 : PySem.W.nsIn K mainGlobals "NoText" = some (some (.ref E3)))
    (en4 : PySem.W.nsIn K mainGlobals "NoTurn" = some (some (.ref E4)))
    (en5 : PySem.W.nsIn K mainGlobals "TooLong" = some (some (.ref E5)))
    (en6 : PySem.W.nsIn K mainGlobals "WipeError" = some (some (.ref E6)))
    (gaX5 : PySem.W.findIn K (.ref E5) "__getattribute__" = some (some (.builtin "BaseException.__getattribute__")))
    (ggX5 : PySem.W.findIn K (.ref E5) "__getattr__" = some none)
    (sbX5 : PySem.W.subIn K (.ref E5) (.type "BaseException") = some true)
    (hxX5 : PySem.W.hasDictIn K E5 = true)
    (caX5 : PySem.W.findIn K (.ref E5) "__class__" = some (some (.builtin "object.__class__")))
    (moX5 : PySem.W.mroIn K E5 (.type "object") = some true)
    (cnX5 : PySem.W.specialIn K (.builtin "object.__class__") "__get__" = some (some (.builtin "getset_descriptor.__get__")))
    (ctX5 : PySem.W.takesIn K (.builtin "object.__class__") = some true)
    (tyX5 : PySem.W.typeIn K (.ref E5) = some (.type "type"))
    (kpX5 : PySem.W.keepIn K (.ref E5) = true)
    (exX5 : PySem.W.excIn K E5 [.type "ValueError", .type "Exception", .type "BaseException", .type "object"] "ValueError.__new__" = true)
    (hs0 : PySem.W.subIn K (.ref E6) (.type "BaseException") = some true)
    (hd0x : PySem.W.hasDictIn K E6 = true)
    (ht0 : PySem.W.typeIn K (.ref E6) = some (.type "type"))
    (hi0_0 : PySem.W.subIn K (.ref E5) (.ref E6) = some true)
    (ki0 : PySem.W.kitOne K (.ref E5) (.ref E0) = some false)
    (ki1 : PySem.W.kitOne K (.ref E5) (.ref E1) = some false)
    (ki2 : PySem.W.kitOne K (.ref E5) (.ref E2) = some false)
    (ki3 : PySem.W.kitOne K (.ref E5) (.ref E4) = some false)
    (ki4 : PySem.W.kitOne K (.ref E5) (.ref E5) = some true)
    (ki5 : PySem.W.kitOne K (.ref E5) (.type "ValueError") = some true)
    (ki6 : PySem.W.kitOne K (.ref E5) (.ref E3) = some false) :
    ∃ fd : FuncData, (∀ (s : Shared) (v : Value), BindsTo s fd ⟨[v], []⟩ [("_law_script", v)]) ∧ ∀ base : Heap, K.In base → base.Ns mainGlobals mg → FnOk l.prog w K mg base CX0 46 fa fd ["_law_script"] (spF K 1 f_law) := by
  have e := hfa.symm.trans (PySem.W.mg_of X G a24)
  cases e
  have F0 := fun_mk (st := s_is_name) l0 c0 k0
  have b0 := F0.binds (ps := ["thing"]) fun _ _ _ _ _ _ us hl => match us, hl with | [_], _ => rfl
  have F1 := fun_mk (st := s_first_name) l1 c1 k1
  have b1 := F1.binds (ps := ["box"]) fun _ _ _ _ _ _ us hl => match us, hl with | [_], _ => rfl
  have F2 := fun_mk (st := s_rows_in) l2 c2 k2
  have b2 := F2.binds (ps := ["word"]) fun _ _ _ _ _ _ us hl => match us, hl with | [_], _ => rfl
  have F3 := fun_mk (st := s_def_of) l3 c3 k3
  have b3 := F3.binds (ps := ["program", "name"]) fun _ _ _ _ _ _ us hl => match us, hl with | [_, _], _ => rfl
  have F4 := fun_mk (st := s_boxes_of) l4 c4 k4
  have b4 := F4.binds (ps := ["word"]) fun _ _ _ _ _ _ us hl => match us, hl with | [_], _ => rfl
  have F5 := fun_mk (st := s_boxes_in) l5 c5 k5
  have b5 := F5.binds (ps := ["row"]) fun _ _ _ _ _ _ us hl => match us, hl with | [_], _ => rfl
  have F6 := fun_mk (st := s_names_in) l6 c6 k6
  have b6 := F6.binds (ps := ["row"]) fun _ _ _ _ _ _ us hl => match us, hl with | [_], _ => rfl
  have F7 := fun_mk (st := s_names_within) l7 c7 k7
  have b7 := F7.binds (ps := ["thing"]) fun _ _ _ _ _ _ us hl => match us, hl with | [_], _ => rfl
  have F8 := fun_mk (st := s_name_by) l8 c8 k8
  have b8 := F8.binds (ps := ["number"]) fun _ _ _ _ _ _ us hl => match us, hl with | [_], _ => rfl
  have F9 := fun_mk (st := s_renamed) l9 c9 k9
  have b9 := F9.binds (ps := ["boxes", "names"]) fun _ _ _ _ _ _ us hl => match us, hl with | [_, _], _ => rfl
  have F10 := fun_mk (st := s_Placing___init__) l10 c10 k10
  have b10 := F10.binds (ps := ["self", "program"]) fun _ _ _ _ _ _ us hl => match us, hl with | [_, _], _ => rfl
  have F11 := fun_mk (st := s_Placing_fresh_name) l11 c11 k11
  have b11 := F11.binds (ps := ["self"]) fun _ _ _ _ _ _ us hl => match us, hl with | [_], _ => rfl
  have F12 := fun_mk (st := s_Placing_tally) l12 c12 k12
  have b12 := F12.binds (ps := ["self", "many"]) fun _ _ _ _ _ _ us hl => match us, hl with | [_, _], _ => rfl
  have F13 := fun_mk (st := s_Placing_put_leaving) l13 c13 k13
  have b13 := F13.binds (ps := ["self", "leaving", "around"]) fun _ _ _ _ _ _ us hl => match us, hl with | [_, _, _], _ => rfl
  have F14 := fun_mk (st := s_Placing_put_row) l14 c14 k14
  have b14 := F14.binds (ps := ["self", "row", "names", "leaving", "around"]) fun _ _ _ _ _ _ us hl => match us, hl with | [_, _, _, _, _], _ => rfl
  have F15 := fun_mk (st := s_Placing_put_word) l15 c15 k15
  have b15 := F15.binds (ps := ["self", "word", "names", "leaving", "around"]) fun _ _ _ _ _ _ us hl => match us, hl with | [_, _, _, _, _], _ => rfl
  have F16 := fun_mk (st := s_Placing_put_call) l16 c16 k16
  have b16 := F16.binds (ps := ["self", "name", "args", "gets"]) fun _ _ _ _ _ _ us hl => match us, hl with | [_, _, _, _], _ => rfl
  have F17 := fun_mk (st := s_in_place) l17 c17 k17
  have b17 := F17.binds (ps := ["program"]) fun _ _ _ _ _ _ us hl => match us, hl with | [_], _ => rfl
  have F18 := fun_mk (st := s__law_deck) l18 c18 k18
  have b18 := F18.binds (ps := ["_law_script", "_law_k"]) fun _ _ _ _ _ _ us hl => match us, hl with | [_, _], _ => rfl
  have F19 := fun_mk (st := s__law_draw) l19 c19 k19
  have b19 := F19.binds (ps := ["_law_deck_here", "_law_many"]) fun _ _ _ _ _ _ us hl => match us, hl with | [_, _], _ => rfl
  have F20 := fun_mk (st := s__law_names) l20 c20 k20
  have b20 := F20.binds (ps := ["_law_deck_here", "_law_many"]) fun _ _ _ _ _ _ us hl => match us, hl with | [_, _], _ => rfl
  have F21 := fun_mk (st := s__law_counted) l21 c21 k21
  have b21 := F21.binds (ps := ["_law_row"]) fun _ _ _ _ _ _ us hl => match us, hl with | [_], _ => rfl
  have F22 := fun_mk (st := s__law_told) l22 c22 k22
  have b22 := F22.binds (ps := ["_law_program_here"]) fun _ _ _ _ _ _ us hl => match us, hl with | [_], _ => rfl
  have F23 := fun_mk (st := s__law_program) l23 c23 k23
  have b23 := F23.binds (ps := ["_law_names_here", "_law_sizes", "_law_wide", "_law_more"]) fun _ _ _ _ _ _ us hl => match us, hl with | [_, _, _, _], _ => rfl
  have F24 := fun_mk (st := s_law) l24 c24 k24
  have b24 := F24.binds (ps := ["_law_script"]) fun _ _ _ _ _ _ us hl => match us, hl with | [_], _ => rfl
  have vl4 := yv4.length
  have hq4 : ∀ H, Rp K H (.ref q4) c_TONGUE := fun H => .tup (.inr ⟨_, _, _, yl4, rfl, rfl, by rw [← Array.length_toList, ← vl4]; decide, yv4⟩) (Rps.of_strs ["take", "ask", "number", "copy", "mix", "open", "tell", "wipe", "clear", "drop", "choose", "loop", "out", "risk", "fault", "call", "back", "def", "main"])
  have T : Tx w K mg := ⟨_, _, F0, b0, PySem.W.mg_of X G a0, _, _, F1, b1, PySem.W.mg_of X G a1, _, _, F2, b2, PySem.W.mg_of X G a2, _, _, F3, b3, PySem.W.mg_of X G a3, _, _, F4, b4, PySem.W.mg_of X G a4, _, _, F5, b5, PySem.W.mg_of X G a5, _, _, F6, b6, PySem.W.mg_of X G a6, _, _, F7, b7, PySem.W.mg_of X G a7, _, _, F8, b8, PySem.W.mg_of X G a8, _, _, F9, b9, PySem.W.mg_of X G a9, _, _, F10, b10, _, _, F11, b11, _, _, F12, b12, _, _, F13, b13, _, _, F14, b14, _, _, F15, b15, _, _, F16, b16, _, _, F17, b17, PySem.W.mg_of X G a17, _, _, F18, b18, PySem.W.mg_of X G a18, _, _, F19, b19, PySem.W.mg_of X G a19, _, _, F20, b20, PySem.W.mg_of X G a20, _, _, F21, b21, PySem.W.mg_of X G a21, _, _, F22, b22, PySem.W.mg_of X G a22, _, _, F23, b23, PySem.W.mg_of X G a23, _, _, F24, b24, PySem.W.mg_of X G a24, PySem.W.mg_none_of X G z0, PySem.W.mg_none_of X G z1, PySem.W.mg_none_of X G z2, PySem.W.mg_none_of X G z3, PySem.W.mg_none_of X G z4, PySem.W.mg_none_of X G z5, PySem.W.mg_none_of X G z6, PySem.W.mg_none_of X G z7, PySem.W.mg_none_of X G z8, PySem.W.mg_none_of X G z9, PySem.W.mg_none_of X G z10, PySem.W.mg_none_of X G z11, PySem.W.mg_none_of X G z12, PySem.W.mg_none_of X G z13, PySem.W.mg_none_of X G z14, _, (.str "abcdefghijklmnopqrstuvwxyz"), PySem.W.mg_of X G y0, ⟨_, rfl⟩, fun H => .str _, _, (.str "abcdefghijklmnopqrstuvwxyz"), PySem.W.mg_of X G y1, ⟨_, rfl⟩, fun H => .str _, _, (.int 8), PySem.W.mg_of X G y2, ⟨_, rfl⟩, fun H => .int _, _, (.int 300), PySem.W.mg_of X G y3, ⟨_, rfl⟩, fun H => .int _, _, (.ref q4), PySem.W.mg_of X G y4, rfl, hq4, _, PySem.W.mg_of X G x0, ⟨_, _, ⟨xl0, xk0, xo0⟩, xe0⟩, _, clsA_of A0, ⟨pg0, hd0, po0, sa0⟩, PySem.W.mg_of X G A0, ⟨mk0, a10, i10, kc0⟩, ⟨a11, i11, k11⟩, ⟨a12, i12, k12⟩, ⟨a13, i13, k13⟩, ⟨a14, i14, k14⟩, ⟨a15, i15, k15⟩, ⟨a16, i16, k16⟩, na0_0, na0_1, na0_2, na0_3, E0, clsA_of en0, PySem.W.mg_of X G en0, E1, clsA_of en1, PySem.W.mg_of X G en1, E2, clsA_of en2, PySem.W.mg_of X G en2, E3, clsA_of en3, PySem.W.mg_of X G en3, E4, clsA_of en4, PySem.W.mg_of X G en4, E5, clsA_of en5, PySem.W.mg_of X G en5, E6, clsA_of en6, PySem.W.mg_of X G en6, ⟨gaX5, ggX5, sbX5, hxX5, caX5, cnX5, ctX5, moX5⟩, exX5, kpX5, sbX5, tyX5, (hitB_cons (clsA_of en5) (PySem.W.exm_ref hs0 hd0x ht0 hi0_0) hitB_nil), ki0, ki1, ki2, ki3, ki4, ki5, ki6⟩
  exact ⟨_, fun s v => .of_eq rfl, fun base _ _ => ok_law ⟨_, _, F0, b0, PySem.W.mg_of X G a0, _, _, F1, b1, PySem.W.mg_of X G a1, _, _, F2, b2, PySem.W.mg_of X G a2, _, _, F3, b3, PySem.W.mg_of X G a3, _, _, F4, b4, PySem.W.mg_of X G a4, _, _, F5, b5, PySem.W.mg_of X G a5, _, _, F6, b6, PySem.W.mg_of X G a6, _, _, F7, b7, PySem.W.mg_of X G a7, _, _, F8, b8, PySem.W.mg_of X G a8, _, _, F9, b9, PySem.W.mg_of X G a9, _, _, F10, b10, _, _, F11, b11, _, _, F12, b12, _, _, F13, b13, _, _, F14, b14, _, _, F15, b15, _, _, F16, b16, _, _, F17, b17, PySem.W.mg_of X G a17, _, _, F18, b18, PySem.W.mg_of X G a18, _, _, F19, b19, PySem.W.mg_of X G a19, _, _, F20, b20, PySem.W.mg_of X G a20, _, _, F21, b21, PySem.W.mg_of X G a21, _, _, F22, b22, PySem.W.mg_of X G a22, _, _, F23, b23, PySem.W.mg_of X G a23, _, _, F24, b24, PySem.W.mg_of X G a24, PySem.W.mg_none_of X G z0, PySem.W.mg_none_of X G z1, PySem.W.mg_none_of X G z2, PySem.W.mg_none_of X G z3, PySem.W.mg_none_of X G z4, PySem.W.mg_none_of X G z5, PySem.W.mg_none_of X G z6, PySem.W.mg_none_of X G z7, PySem.W.mg_none_of X G z8, PySem.W.mg_none_of X G z9, PySem.W.mg_none_of X G z10, PySem.W.mg_none_of X G z11, PySem.W.mg_none_of X G z12, PySem.W.mg_none_of X G z13, PySem.W.mg_none_of X G z14, _, (.str "abcdefghijklmnopqrstuvwxyz"), PySem.W.mg_of X G y0, ⟨_, rfl⟩, fun H => .str _, _, (.str "abcdefghijklmnopqrstuvwxyz"), PySem.W.mg_of X G y1, ⟨_, rfl⟩, fun H => .str _, _, (.int 8), PySem.W.mg_of X G y2, ⟨_, rfl⟩, fun H => .int _, _, (.int 300), PySem.W.mg_of X G y3, ⟨_, rfl⟩, fun H => .int _, _, (.ref q4), PySem.W.mg_of X G y4, rfl, hq4, _, PySem.W.mg_of X G x0, ⟨_, _, ⟨xl0, xk0, xo0⟩, xe0⟩, _, clsA_of A0, ⟨pg0, hd0, po0, sa0⟩, PySem.W.mg_of X G A0, ⟨mk0, a10, i10, kc0⟩, ⟨a11, i11, k11⟩, ⟨a12, i12, k12⟩, ⟨a13, i13, k13⟩, ⟨a14, i14, k14⟩, ⟨a15, i15, k15⟩, ⟨a16, i16, k16⟩, na0_0, na0_1, na0_2, na0_3, E0, clsA_of en0, PySem.W.mg_of X G en0, E1, clsA_of en1, PySem.W.mg_of X G en1, E2, clsA_of en2, PySem.W.mg_of X G en2, E3, clsA_of en3, PySem.W.mg_of X G en3, E4, clsA_of en4, PySem.W.mg_of X G en4, E5, clsA_of en5, PySem.W.mg_of X G en5, E6, clsA_of en6, PySem.W.mg_of X G en6, ⟨gaX5, ggX5, sbX5, hxX5, caX5, cnX5, ctX5, moX5⟩, exX5, kpX5, sbX5, tyX5, (hitB_cons (clsA_of en5) (PySem.W.exm_ref hs0 hd0x ht0 hi0_0) hitB_nil), ki0, ki1, ki2, ki3, ki4, ki5, ki6⟩⟩
theorem sp_law (hg : Good) {K : Frag} {H : Hp} {a : Addr} {ns : List Int} (hl : ns.length ≤ 63) (hS : SqL K H a (ns.map V.int)) : spF K 1 f_law [.ref a] H (fun v _ => v = .bl true) fun _ _ _ => False := by
  obtain ⟨δ, hδ⟩ := hg ns hl
  refine ⟨rfl, fun _ => none, ⟨[], H⟩, [.sh (.list (ns.map PyData.int))], [], ?_, .cons (.sh (.lst hS (Rps.of_ints ns))) .nil, ?_⟩
  · exact {
      ex := Ex.refl H
      fg := fun a o q => nomatch q
      len := rfl
      rl := rfl
      sl := fun i c q _ => by simp at q
      ob := fun i c q _ => by simp at q
      nd := List.nodup_nil
      al := fun a ha => by simp at ha
      nt := fun a xs _ => ⟨by simp, rfl⟩
      gx := fun a fs q => nomatch q
      fz := fun l o q _ => by simp at q }
  · rw [hδ]
    intro g' H' e r v rv
    cases rv with
    | sh h =>
      cases h
      rfl
end Ds.K41
open PySem PySem.W PyProof.Rows
set_option maxHeartbeats 0 in
theorem PySem.Challenge.cw_wipeways_k41_too_long_in_place_holds : PySem.Challenge.rw_wipeways_k41_too_long_in_place.Holds := by
  w_on; o_law; k_head; (case hw => w_witness2)
  k_fill
  refine L2.walk_of (l := PySem.Challenge.rw_wipeways_k41_too_long_in_place) (n := 63) (k := 46) (x := "_law_script") (CX := fun _ => L2.CX0) (sp := fun w => Ds.spF _ 1 Ds.K41.f_law) rfl (by decide) rfl ⟨rfl, by decide, by decide⟩ (fun w h Y => PySem.W.kIn_of Y) ?F (fun _ _ a ns hl _ hS => Ds.K41.sp_law Ds.K41.good hl hS) (fun _ _ _ _ _ h => h)
  case F =>
    intro w mg fa h KX G hmg
    refine' Ds.K41.all_mk KX G hmg ?a0 ?l0 ?c0 ?k0 ?a1 ?l1 ?c1 ?k1 ?a2 ?l2 ?c2 ?k2 ?a3 ?l3 ?c3 ?k3 ?a4 ?l4 ?c4 ?k4 ?a5 ?l5 ?c5 ?k5 ?a6 ?l6 ?c6 ?k6 ?a7 ?l7 ?c7 ?k7 ?a8 ?l8 ?c8 ?k8 ?a9 ?l9 ?c9 ?k9 ?a10 ?i10 ?l10 ?c10 ?k10 ?a11 ?i11 ?l11 ?c11 ?k11 ?a12 ?i12 ?l12 ?c12 ?k12 ?a13 ?i13 ?l13 ?c13 ?k13 ?a14 ?i14 ?l14 ?c14 ?k14 ?a15 ?i15 ?l15 ?c15 ?k15 ?a16 ?i16 ?l16 ?c16 ?k16 ?a17 ?l17 ?c17 ?k17 ?a18 ?l18 ?c18 ?k18 ?a19 ?l19 ?c19 ?k19 ?a20 ?l20 ?c20 ?k20 ?a21 ?l21 ?c21 ?k21 ?a22 ?l22 ?c22 ?k22 ?a23 ?l23 ?c23 ?k23 ?a24 ?l24 ?c24 ?k24 ?A0 ?pg0 ?hd0 ?po0 ?mk0 ?kc0 ?sa0 ?na0_0 ?na0_1 ?na0_2 ?na0_3 ?z0 ?z1 ?z2 ?z3 ?z4 ?z5 ?z6 ?z7 ?z8 ?z9 ?z10 ?z11 ?z12 ?z13 ?z14 ?y0 ?y1 ?y2 ?y3 ?y4 ?yl4 ?yv4 ?x0 ?xl0 ?xk0 ?xe0 ?xo0 ?en0 ?en1 ?en2 ?en3 ?en4 ?en5 ?en6 ?gaX5 ?ggX5 ?sbX5 ?hxX5 ?caX5 ?moX5 ?cnX5 ?ctX5 ?tyX5 ?kpX5 ?exX5 ?hs0 ?hd0x ?ht0 ?hi0_0 ?ki0 ?ki1 ?ki2 ?ki3 ?ki4 ?ki5 ?ki6
    (case A0 => k_is)
    (case a0 => k_is)
    (case l0 => k_is)
    (case c0 => k_is)
    (case k0 => k_is)
    (case a1 => k_is)
    (case l1 => k_is)
    (case c1 => k_is)
    (case k1 => k_is)
    (case a2 => k_is)
    (case l2 => k_is)
    (case c2 => k_is)
    (case k2 => k_is)
    (case a3 => k_is)
    (case l3 => k_is)
    (case c3 => k_is)
    (case k3 => k_is)
    (case a4 => k_is)
    (case l4 => k_is)
    (case c4 => k_is)
    (case k4 => k_is)
    (case a5 => k_is)
    (case l5 => k_is)
    (case c5 => k_is)
    (case k5 => k_is)
    (case a6 => k_is)
    (case l6 => k_is)
    (case c6 => k_is)
    (case k6 => k_is)
    (case a7 => k_is)
    (case l7 => k_is)
    (case c7 => k_is)
    (case k7 => k_is)
    (case a8 => k_is)
    (case l8 => k_is)
    (case c8 => k_is)
    (case k8 => k_is)
    (case a9 => k_is)
    (case l9 => k_is)
    (case c9 => k_is)
    (case k9 => k_is)
    (case a10 => k_is)
    (case i10 => k_is)
    (case l10 => k_is)
    (case c10 => k_is)
    (case k10 => k_is)
    (case a11 => k_is)
    (case i11 => k_is)
    (case l11 => k_is)
    (case c11 => k_is)
    (case k11 => k_is)
    (case a12 => k_is)
    (case i12 => k_is)
    (case l12 => k_is)
    (case c12 => k_is)
    (case k12 => k_is)
    (case a13 => k_is)
    (case i13 => k_is)
    (case l13 => k_is)
    (case c13 => k_is)
    (case k13 => k_is)
    (case a14 => k_is)
    (case i14 => k_is)
    (case l14 => k_is)
    (case c14 => k_is)
    (case k14 => k_is)
    (case a15 => k_is)
    (case i15 => k_is)
    (case l15 => k_is)
    (case c15 => k_is)
    (case k15 => k_is)
    (case a16 => k_is)
    (case i16 => k_is)
    (case l16 => k_is)
    (case c16 => k_is)
    (case k16 => k_is)
    (case a17 => k_is)
    (case l17 => k_is)
    (case c17 => k_is)
    (case k17 => k_is)
    (case a18 => k_is)
    (case l18 => k_is)
    (case c18 => k_is)
    (case k18 => k_is)
    (case a19 => k_is)
    (case l19 => k_is)
    (case c19 => k_is)
    (case k19 => k_is)
    (case a20 => k_is)
    (case l20 => k_is)
    (case c20 => k_is)
    (case k20 => k_is)
    (case a21 => k_is)
    (case l21 => k_is)
    (case c21 => k_is)
    (case k21 => k_is)
    (case a22 => k_is)
    (case l22 => k_is)
    (case c22 => k_is)
    (case k22 => k_is)
    (case a23 => k_is)
    (case l23 => k_is)
    (case c23 => k_is)
    (case k23 => k_is)
    (case a24 => k_is)
    (case l24 => k_is)
    (case c24 => k_is)
    (case k24 => k_is)
    (case pg0 => k_is)
    (case hd0 => k_is)
    (case po0 => k_is)
    (case mk0 => k_is)
    (case kc0 => k_is)
    (case sa0 => k_is)
    (case na0_0 => k_is)
    (case na0_1 => k_is)
    (case na0_2 => k_is)
    (case na0_3 => k_is)
    (case z0 => k_is)
    (case z1 => k_is)
    (case z2 => k_is)
    (case z3 => k_is)
    (case z4 => k_is)
    (case z5 => k_is)
    (case z6 => k_is)
    (case z7 => k_is)
    (case z8 => k_is)
    (case z9 => k_is)
    (case z10 => k_is)
    (case z11 => k_is)
    (case z12 => k_is)
    (case z13 => k_is)
    (case z14 => k_is)
    (case y0 => k_is)
    (case y1 => k_is)
    (case y2 => k_is)
    (case y3 => k_is)
    (case y4 => k_is)
    (case yl4 => k_is)
    (case yv4 => repeat (first | exact Paired.nil | refine Paired.cons ⟨_, rfl⟩ ?_))
    (case x0 => k_is)
    (case xl0 => k_is)
    (case xk0 => k_keys)
    (case xe0 => repeat (first | exact Ds.KKeys.nil | refine Ds.KKeys.cons rfl ?_))
    (case xo0 => decide)
    (case en0 => k_is)
    (case en1 => k_is)
    (case en2 => k_is)
    (case en3 => k_is)
    (case en4 => k_is)
    (case en5 => k_is)
    (case en6 => k_is)
    (case gaX5 => k_is)
    (case ggX5 => k_is)
    (case sbX5 => k_is)
    (case hxX5 => k_is)
    (case caX5 => k_is)
    (case moX5 => k_is)
    (case cnX5 => k_is)
    (case ctX5 => k_is)
    (case tyX5 => k_is)
    (case kpX5 => k_is)
    (case exX5 => k_exc)
    (case hs0 => k_is)
    (case hd0x => k_is)
    (case ht0 => k_is)
    (case hi0_0 => k_is)
    (case ki0 => first | k_is | kit_is)
    (case ki1 => first | k_is | kit_is)
    (case ki2 => first | k_is | kit_is)
    (case ki3 => first | k_is | kit_is)
    (case ki4 => first | k_is | kit_is)
    (case ki5 => first | k_is | kit_is)
    (case ki6 => first | k_is | kit_is)
