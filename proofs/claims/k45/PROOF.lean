import PyProof.Rows.All
import HandS.Wide
import Wide.All
import OpenK.AllK
import Wide.FinOn
import HandS.ForMost
import HandS.TupAny
import HandS.TupLe
import HandS.IsInst
import HandS.Zip
import HandS.NoneIn
import HandS.SetFor
import HandS.SetTxt0
import HandS.Strs
import PyProof.Rows.SortShellAny
import KE.GoesMore
import KE.GoesEnum
import KE.GoesZip
import PyProof.EnumMake
import KE.SortData
import HandS.Conv
import HandS.More
import KE.KDictDisplayH
import HandS.Style
import HandS.TupMul
import HandS.RaiseMore
import HandS.Text
import HandS.WordsExc
import HandS.CallSlots
import HandS.ExcIs
import HandS.TryOnly
import HandS.ExcField
import KE.KExcIs
import HandS.ExcInit
import PySem.Challenge.RW_wipeways_k45_answers_that_lack
set_option Elab.async false
set_option linter.all false
set_option maxRecDepth 100000
set_option maxHeartbeats 4000000
namespace Dn
open PySem PySem.Spec PyProof.Rows L2
abbrev D := PyData
abbrev Frag := PySem.W.Frag
def Ex (H H' : Hp) : Prop := ∀ a o, H a = some o → H' a = some o
theorem Ex.refl (H : Hp) : Ex H H := fun _ _ h => h
theorem Ex.trans {H H1 H2 : Hp} (a : Ex H H1) (b : Ex H1 H2) : Ex H H2 := fun x o h => b x o (a x o h)
theorem ex_new {H : Hp} {p : Addr} {o : HO} (h : H p = none) : Ex H (upd H p o) := fun a u e => by
  by_cases hap : a = p
  · subst hap; rw [h] at e; cases e
  · rw [upd_ne hap]; exact e
theorem rd_ex {H H' : Hp} {a : Addr} {u : HO} (e : Ex H H') (h : Rd H a u) : Rd H' a u := by
  rcases h with h | ⟨o, h⟩
  · exact .inl (e a _ h)
  · exact .inr ⟨o, e a _ h⟩
/-- a tuple that is read: tracked as it is, or one of the module -/
def StT (K : Frag) (H : Hp) (a : Addr) (xs : List V) : Prop :=
  H a = some (.tup xs) ∨ ∃ (o : Obj) (its : Array Value) (n : Nat), K.lookup a = some o ∧ o.cls = .type "tuple" ∧ o.data = .seq its n ∧ its.size ≤ sizeLine ∧ Vals xs its.toList
theorem StT.sq {K : Frag} {H : Hp} {a : Addr} {xs : List V} (h : StT K H a xs) : SqT K H a xs := by
  rcases h with h | h
  · exact .inl (.inl h)
  · exact .inr h
theorem StT.of {K : Frag} {H : Hp} {a : Addr} {xs : List V} (h : H a = some (.tup xs)) : StT K H a xs := .inl h
theorem StT.ex {K : Frag} {H H' : Hp} {a : Addr} {xs : List V} (e : Ex H H') (h : StT K H a xs) : StT K H' a xs := by
  rcases h with h | h
  · exact .inl (e _ _ h)
  · exact .inr h
theorem sqT_ex {K : Frag} {H H' : Hp} {a : Addr} {xs : List V} (e : Ex H H') (h : StT K H a xs) : SqT K H' a xs := (h.ex e).sq
theorem sqL_ex {K : Frag} {H H' : Hp} {a : Addr} {xs : List V} (e : Ex H H') (h : SqL K H a xs) : SqL K H' a xs := by
  rcases h with h | h
  · exact .inl (rd_ex e h)
  · exact .inr h
mutual
inductive Rp (K : Frag) (H : Hp) : V → D → Prop where
  | non : Rp K H .non .none
  | bl (b : Bool) : Rp K H (.bl b) (.bool b)
  | int (i : Int) : Rp K H (.int i) (.int i)
  | str (x : Str) : Rp K H (.str x) (.str x)
  | lst {a : Addr} {xs : List V} {ds : List D} : SqL K H a xs → Rps K H xs ds → Rp K H (.ref a) (.list ds)
  | tup {a : Addr} {xs : List V} {ds : List D} : StT K H a xs → Rps K H xs ds → Rp K H (.ref a) (.tuple ds)
inductive Rps (K : Frag) (H : Hp) : List V → List D → Prop where
  | nil : Rps K H [] []
  | cons {v : V} {vs : List V} {d : D} {ds : List D} : Rp K H v d → Rps K H vs ds → Rps K H (v :: vs) (d :: ds)
end
section
variable {K : Frag} {H H' : Hp}
mutual
theorem Rp.ex (e : Ex H H') : ∀ {v : V} {d : D}, Rp K H v d → Rp K H' v d
  | _, _, .non => .non
  | _, _, .bl b => .bl b
  | _, _, .int i => .int i
  | _, _, .str x => .str x
  | _, _, .lst h t => .lst (sqL_ex e h) (Rps.ex e t)
  | _, _, .tup h t => .tup (h.ex e) (Rps.ex e t)
theorem Rps.ex (e : Ex H H') : ∀ {vs : List V} {ds : List D}, Rps K H vs ds → Rps K H' vs ds
  | _, _, .nil => .nil
  | _, _, .cons h t => .cons (Rp.ex e h) (Rps.ex e t)
end
mutual
theorem Rp.dp : ∀ {v : V} {d : D}, Rp K H v d → Dp K H v d
  | _, _, .non => .non
  | _, _, .bl b => .bl b
  | _, _, .int i => .int i
  | _, _, .str x => .str x
  | _, _, .lst h t => .lst h (Rps.dp t)
  | _, _, .tup h t => .tup h.sq (Rps.dp t)
theorem Rps.dp : ∀ {vs : List V} {ds : List D}, Rps K H vs ds → DpAll K H vs ds
  | _, _, .nil => .nil
  | _, _, .cons h t => .cons (Rp.dp h) (Rps.dp t)
end
theorem Rps.length : ∀ {vs : List V} {ds : List D}, Rps K H vs ds → vs.length = ds.length
  | _, _, .nil => rfl
  | _, _, .cons _ t => by rw [List.length_cons, List.length_cons, Rps.length t]
theorem Rps.get : ∀ {vs : List V} {ds : List D} {i : Nat} {d : D}, Rps K H vs ds → ds[i]? = some d → ∃ v, vs[i]? = some v ∧ Rp K H v d
  | _, _, i, d, .nil, e => by simp at e
  | _, _, 0, d, .cons h _, e => by simp at e; subst e; exact ⟨_, rfl, h⟩
  | _, _, i + 1, d, .cons _ t, e => by
    obtain ⟨v, h1, h2⟩ := Rps.get (i := i) t (by simpa using e)
    exact ⟨v, by simpa using h1, h2⟩
theorem Rps.append : ∀ {vs ws : List V} {ds es : List D}, Rps K H vs ds → Rps K H ws es → Rps K H (vs ++ ws) (ds ++ es)
  | _, _, _, _, .nil, s => s
  | _, _, _, _, .cons h t, s => .cons h (Rps.append t s)
theorem Rps.snoc {vs : List V} {ds : List D} {v : V} {d : D} (h : Rps K H vs ds) (r : Rp K H v d) : Rps K H (vs ++ [v]) (ds ++ [d]) := h.append (.cons r .nil)
theorem Rps.take : ∀ {vs : List V} {ds : List D} (n : Nat), Rps K H vs ds → Rps K H (vs.take n) (ds.take n)
  | _, _, 0, _ => .nil
  | _, _, _ + 1, .nil => .nil
  | _, _, n + 1, .cons h t => .cons h (Rps.take n t)
theorem Rps.drop : ∀ {vs : List V} {ds : List D} (n : Nat), Rps K H vs ds → Rps K H (vs.drop n) (ds.drop n)
  | _, _, 0, h => h
  | _, _, _ + 1, .nil => .nil
  | _, _, n + 1, .cons _ t => Rps.drop n t
theorem Rps.set {v : V} {d : D} (r : Rp K H v d) : ∀ {vs : List V} {ds : List D} (i : Nat), Rps K H vs ds → Rps K H (vs.set i v) (ds.set i d)
  | _, _, _, .nil => .nil
  | _, _, 0, .cons _ t => .cons r t
  | _, _, i + 1, .cons h t => .cons h (Rps.set r i t)
theorem Rps.of_ints : ∀ (ns : List Int), Rps K H (ns.map V.int) (ns.map PyData.int)
  | [] => .nil
  | n :: ns => .cons (.int n) (Rps.of_ints ns)
theorem Rps.strs : ∀ {vs : List V} {ns : List Str}, Rps K H vs (ns.map PyData.str) → vs = ns.map V.str
  | _, [], .nil => rfl
  | _, n :: ns, .cons h t => by
    cases h
    rw [List.map_cons, Rps.strs t]
theorem Rps.of_strs : ∀ (ns : List Str), Rps K H (ns.map V.str) (ns.map PyData.str)
  | [] => .nil
  | n :: ns => .cons (.str n) (Rps.of_strs ns)
end
inductive Sl where
  | no
  | sh (d : D)
  | ow (xs : List D)
abbrev Env := List Sl
def Sl.own : Sl → Bool
  | .ow _ => true
  | _ => false
structure Exn where
  cls : Str
  num : Option Int
inductive Res (α : Type) where
  | ok (a : α) (e : Env)
  | exc (x : Exn) (e : Env)
  | bad
abbrev M (α : Type) := Env → Res α
def mPure {α : Type} (a : α) : M α := fun e => .ok a e
def mBind {α β : Type} (m : M α) (f : α → M β) : M β := fun e => match m e with
  | .ok a e' => f a e'
  | .exc x e' => .exc x e'
  | .bad => .bad
def mOpt {α : Type} (o : Option α) : M α := fun e => match o with
  | some a => .ok a e
  | none => .bad
def OwR (K : Frag) (Hs : Hp) : Sl → HO → Prop
  | .ow xs, .lst vs => Rps K Hs vs xs
  | _, _ => False
theorem OwR.ex {K : Frag} {H H' : Hp} (e : Ex H H') : ∀ {s : Sl} {o : HO}, OwR K H s o → OwR K H' s o := fun {s o} h => by
  cases s with
  | ow xs =>
    cases o with
    | lst vs => exact Rps.ex e h
    | _ => exact h
  | _ => exact h
/-- pn: the slots that hold a caller's own lists (they stay); G: what others hold -/
structure Wd where
  pn : List (Nat × V)
  G : Hp
structure RE (K : Frag) (W : Wd) (Hs H : Hp) (σ : L2.St) (δ : Env) : Prop where
  ex : Ex Hs H
  fg : ∀ a o, W.G a = some o → H a = some o ∧ Hs a = none
  len : σ.length = δ.length
  sh : ∀ (i : Nat) (d : D), δ[i]? = some (Sl.sh d) → ∃ v : V, σ[i]? = some (some v) ∧ Rp K Hs v d
  ow : ∀ (i : Nat) (s : Sl), δ[i]? = some s → s.own = true → ∃ (a : Addr) (o : HO), σ[i]? = some (some (V.ref a)) ∧ H a = some o ∧ OwR K Hs s o ∧ Hs a = none ∧ W.G a = none
  ap : ∀ (i j : Nat) (s t : Sl) (a : Addr), δ[i]? = some s → s.own = true → δ[j]? = some t → t.own = true → σ[i]? = some (some (V.ref a)) → σ[j]? = some (some (V.ref a)) → i = j
  pin : ∀ p ∈ W.pn, σ[p.1]? = some (some p.2) ∧ ∃ s : Sl, δ[p.1]? = some s ∧ s.own = true
/-- new stable things, all of them fresh -/
structure Gr (Hs H Hs' H' : Hp) : Prop where
  s : Ex Hs Hs'
  h : Ex H H'
  i : Ex Hs' H'
  f : ∀ a, H a ≠ none → Hs' a = Hs a
theorem Gr.refl {Hs H : Hp} (e : Ex Hs H) : Gr Hs H Hs H := ⟨Ex.refl _, Ex.refl _, e, fun _ _ => rfl⟩
theorem ex_none {Hs H : Hp} {p : Addr} (e : Ex Hs H) (h : H p = none) : Hs p = none := by
  cases q : Hs p with
  | none => rfl
  | some o => rw [e p o q] at h; cases h
theorem Gr.new {Hs H : Hp} {p : Addr} {o : HO} (e : Ex Hs H) (h : H p = none) : Gr Hs H (upd Hs p o) (upd H p o) where
  s := ex_new (ex_none e h)
  h := ex_new h
  i := fun a u q => by
    by_cases hap : a = p
    · subst hap; rw [upd_same] at q ⊢; exact q
    · rw [upd_ne hap] at q ⊢; exact e a u q
  f := fun a ha => by
    have hap : a ≠ p := fun z => ha (z ▸ h)
    rw [upd_ne hap]
theorem Gr.trans {Hs H Hs1 H1 Hs2 H2 : Hp} (a : Gr Hs H Hs1 H1) (b : Gr Hs1 H1 Hs2 H2) : Gr Hs H Hs2 H2 where
  s := a.s.trans b.s
  h := a.h.trans b.h
  i := b.i
  f := fun x hx => by
    have h1 : H1 x ≠ none := by
      cases q : H x with
      | none => exact absurd q hx
      | some o => rw [a.h x o q]; simp
    rw [b.f x h1, a.f x hx]
section
variable {K : Frag} {W : Wd} {Hs H Hs' H' : Hp} {σ σ' : L2.St} {δ δ' : Env}
theorem RE.grow (r : RE K W Hs H σ δ) (g : Gr Hs H Hs' H') : RE K W Hs' H' σ δ where
  ex := g.i
  fg := fun a o q => by
    obtain ⟨h1, h2⟩ := r.fg a o q
    refine ⟨g.h a o h1, ?_⟩
    rw [g.f a (by rw [h1]; simp), h2]
  len := r.len
  sh := fun i d q => by
    obtain ⟨v, h1, h2⟩ := r.sh i d q
    exact ⟨v, h1, h2.ex g.s⟩
  ow := fun i s q w => by
    obtain ⟨a, o, h1, h2, h3, h4, h5⟩ := r.ow i s q w
    refine ⟨a, o, h1, g.h a o h2, h3.ex g.s, ?_, h5⟩
    rw [g.f a (by rw [h2]; simp), h4]
  ap := r.ap
  pin := r.pin
/-- a slot that says nothing may hold anything -/
theorem RE.sig (r : RE K W Hs H σ δ) (hl : σ'.length = σ.length) (h : ∀ (i : Nat) (s : Sl), δ[i]? = some s → s ≠ Sl.no → σ'[i]? = σ[i]?) : RE K W Hs H σ' δ where
  ex := r.ex
  fg := r.fg
  len := hl.trans r.len
  sh := fun i d q => by rw [h i _ q (by simp)]; exact r.sh i d q
  ow := fun i s q w => by rw [h i s q (by rintro rfl; cases w)]; exact r.ow i s q w
  ap := fun i j s t a h1 h2 h3 h4 h5 h6 => by
    rw [h i s h1 (by rintro rfl; cases h2)] at h5
    rw [h j t h3 (by rintro rfl; cases h4)] at h6
    exact r.ap i j s t a h1 h2 h3 h4 h5 h6
  pin := fun p hp => by
    obtain ⟨h1, s, h2, h3⟩ := r.pin p hp
    refine ⟨?_, s, h2, h3⟩
    rw [h p.1 s h2 (by rintro rfl; cases h3)]
    exact h1
/-- less is said -/
theorem RE.less (r : RE K W Hs H σ δ) (hl : δ'.length = δ.length) (h : ∀ (i : Nat) (s : Sl), δ'[i]? = some s → s = Sl.no ∨ δ[i]? = some s) (hp : ∀ p ∈ W.pn, δ'[p.1]? = δ[p.1]?) : RE K W Hs H σ δ' where
  ex := r.ex
  fg := r.fg
  len := r.len.trans hl.symm
  sh := fun i d q => by
    rcases h i _ q with z | z
    · cases z
    · exact r.sh i d z
  ow := fun i s q w => by
    rcases h i _ q with z | z
    · subst z; cases w
    · exact r.ow i s z w
  ap := fun i j s t a h1 h2 h3 h4 h5 h6 => by
    rcases h i _ h1 with z | z
    · subst z; cases h2
    · rcases h j _ h3 with z' | z'
      · subst z'; cases h4
      · exact r.ap i j s t a z h2 z' h4 h5 h6
  pin := fun p hpn => by
    obtain ⟨h1, s, h2, h3⟩ := r.pin p hpn
    exact ⟨h1, s, (hp p hpn).trans h2, h3⟩
end
theorem setGet {α : Type} {l : List α} {i j : Nat} {x s : α} (h : (l.set i x)[j]? = some s) : (j = i ∧ s = x) ∨ (j ≠ i ∧ l[j]? = some s) := by
  by_cases e : j = i
  · subst e
    by_cases hl : j < l.length
    · rw [List.getElem?_set_self hl] at h
      exact .inl ⟨rfl, (Option.some.inj h).symm⟩
    · rw [List.getElem?_eq_none (by simpa using hl)] at h; cases h
  · rw [List.getElem?_set_ne (Ne.symm e)] at h
    exact .inr ⟨e, h⟩
theorem set_lt {α : Type} {l : List α} {i : Nat} {x s : α} (h : (l.set i x)[i]? = some s) : i < l.length := by
  by_cases hl : i < l.length
  · exact hl
  · rw [List.getElem?_eq_none (by simpa using hl)] at h; cases h
/-- a fresh list that no name holds yet -/
structure FrO (K : Frag) (W : Wd) (Hs H : Hp) (σ : L2.St) (δ : Env) (a : Addr) (xs : List D) : Prop where
  at_ : ∃ vs, H a = some (.lst vs) ∧ Rps K Hs vs xs
  hs : Hs a = none
  g : W.G a = none
  ne : ∀ (i : Nat) (s : Sl), δ[i]? = some s → s.own = true → σ[i]? ≠ some (some (V.ref a))
section
variable {K : Frag} {W : Wd} {Hs H Hs' H' : Hp} {σ : L2.St} {δ : Env} {v : V} {d : D} {i : Nat} {a : Addr} {xs : List D}
theorem RE.setSh (r : RE K W Hs H σ δ) (h : Rp K Hs v d) (hi : i ∉ W.pn.map (·.1)) : RE K W Hs H (σ.set i (some v)) (δ.set i (.sh d)) where
  ex := r.ex
  fg := r.fg
  len := by rw [List.length_set, List.length_set]; exact r.len
  sh := fun j e q => by
    rcases setGet q with ⟨rfl, z⟩ | ⟨hj, z⟩
    · cases z
      have hl := set_lt q
      exact ⟨v, by rw [List.getElem?_set_self (by rw [r.len]; exact hl)], h⟩
    · rw [List.getElem?_set_ne (Ne.symm hj)]
      exact r.sh j e z
  ow := fun j s q w => by
    rcases setGet q with ⟨rfl, z⟩ | ⟨hj, z⟩
    · subst z; cases w
    · rw [List.getElem?_set_ne (Ne.symm hj)]
      exact r.ow j s z w
  ap := fun j k s t b h1 h2 h3 h4 h5 h6 => by
    rcases setGet h1 with ⟨rfl, z⟩ | ⟨hj, z⟩
    · subst z; cases h2
    · rcases setGet h3 with ⟨rfl, z'⟩ | ⟨hk, z'⟩
      · subst z'; cases h4
      · rw [List.getElem?_set_ne (Ne.symm hj)] at h5
        rw [List.getElem?_set_ne (Ne.symm hk)] at h6
        exact r.ap j k s t b z h2 z' h4 h5 h6
  pin := fun p hp => by
    have hne : i ≠ p.1 := fun z => hi (z ▸ List.mem_map_of_mem hp)
    rw [List.getElem?_set_ne hne, List.getElem?_set_ne hne]
    exact r.pin p hp
/-- the list of a slot is changed in place -/
theorem RE.write {s : Sl} {o : HO} (r : RE K W Hs H σ δ) {t : Sl} (ht : δ[i]? = some t) (hto : t.own = true) (ha : σ[i]? = some (some (V.ref a))) (hs : s.own = true) (ho : OwR K Hs s o) : RE K W Hs (upd H a o) σ (δ.set i s) := by
  obtain ⟨a', o', e1, e2, e3, e4, e5⟩ := r.ow i t ht hto
  have haa : a' = a := by rw [ha] at e1; cases e1; rfl
  subst haa
  have hil : i < δ.length := (List.getElem?_eq_some_iff.mp ht).1
  exact {
    ex := fun b u q => by
      have hb : b ≠ a' := fun z => by rw [z, e4] at q; cases q
      rw [upd_ne hb]; exact r.ex b u q
    fg := fun b u q => by
      have hb : b ≠ a' := fun z => by rw [z, e5] at q; cases q
      rw [upd_ne hb]; exact r.fg b u q
    len := by rw [List.length_set]; exact r.len
    sh := fun j e q => by
      rcases setGet q with ⟨rfl, z⟩ | ⟨hj, z⟩
      · subst z; cases hs
      · exact r.sh j e z
    ow := fun j u q w => by
      rcases setGet q with ⟨rfl, z⟩ | ⟨hj, z⟩
      · subst z; exact ⟨a', o, ha, upd_same, ho, e4, e5⟩
      · obtain ⟨b, p, f1, f2, f3, f4, f5⟩ := r.ow j u z w
        have hb : b ≠ a' := fun zz => by
          subst zz
          exact hj (r.ap j i u t b z w ht hto f1 ha)
        exact ⟨b, p, f1, by rw [upd_ne hb]; exact f2, f3, f4, f5⟩
    ap := fun j k u w b h1 h2 h3 h4 h5 h6 => by
      have f : ∀ {j : Nat} {u : Sl}, (δ.set i s)[j]? = some u → u.own = true → ∃ u', δ[j]? = some u' ∧ u'.own = true := fun {j u} q w => by
        rcases setGet q with ⟨rfl, z⟩ | ⟨hj, z⟩
        · exact ⟨t, ht, hto⟩
        · exact ⟨u, z, w⟩
      obtain ⟨u1, q1, w1⟩ := f h1 h2
      obtain ⟨u2, q2, w2⟩ := f h3 h4
      exact r.ap j k u1 u2 b q1 w1 q2 w2 h5 h6
    pin := fun p hp => by
      obtain ⟨h1, u, h2, h3⟩ := r.pin p hp
      refine ⟨h1, ?_⟩
      by_cases hpi : i = p.1
      · exact ⟨s, by rw [← hpi, List.getElem?_set_self hil], hs⟩
      · exact ⟨u, by rw [List.getElem?_set_ne hpi]; exact h2, h3⟩ }
end
end Dn
namespace Dn
open PySem PySem.Spec PyProof.Rows L2
/-- what is wanted of an exception -/
abbrev XQ := Exn → L2.St → Hp → Prop
abbrev noX : XQ := fun _ _ _ => False
def Post {α : Type} (K : Frag) (E : XQ) (W : Wd) (Hs : Hp) (σ : L2.St) (r : Res α) (Q : α → Hp → Hp → Env → Prop) : Prop :=
  match r with
  | .ok a δ' => ∀ Hs' H', Ex Hs Hs' → RE K W Hs' H' σ δ' → Q a Hs' H' δ'
  | .exc x δ' => ∀ Hs' H', Ex Hs Hs' → RE K W Hs' H' σ δ' → E x σ H'
  | .bad => False
theorem Post.ex {α : Type} {K : Frag} {E : XQ} {W : Wd} {Hs Hs1 : Hp} {σ : L2.St} {r : Res α} {Q : α → Hp → Hp → Env → Prop} (h : Post K E W Hs σ r Q) (e : Ex Hs Hs1) : Post K E W Hs1 σ r Q := by
  cases r with
  | ok a δ' => exact fun Hs' H' e' r => h Hs' H' (e.trans e') r
  | exc x δ' => exact fun Hs' H' e' r => h Hs' H' (e.trans e') r
  | bad => exact h
theorem Post.of {α : Type} {K : Frag} {E : XQ} {W : Wd} {Hs H : Hp} {σ : L2.St} {a : α} {δ : Env} {Q : α → Hp → Hp → Env → Prop} (h : Post K E W Hs σ (.ok a δ) Q) (r : RE K W Hs H σ δ) : Q a Hs H δ := h Hs H (Ex.refl _) r
theorem Post.grow {α : Type} {K : Frag} {E : XQ} {W : Wd} {Hs H Hs' H' : Hp} {σ : L2.St} {a : α} {δ : Env} {Q : α → Hp → Hp → Env → Prop} (h : Post K E W Hs σ (.ok a δ) Q) (r : RE K W Hs H σ δ) (g : Gr Hs H Hs' H') : Q a Hs' H' δ :=
  h Hs' H' g.s (r.grow g)
/-- a run from some world that the slots and the heap bear -/
def Cf {α : Type} (K : Frag) (E : XQ) (ps : List Nat) (m : M α) (σ : L2.St) (H : Hp) (Q : Wd → α → Hp → Hp → Env → Prop) : Prop :=
  ∃ (W : Wd) (Hs : Hp) (δ : Env), W.pn.map (·.1) = ps ∧ RE K W Hs H σ δ ∧ Post K E W Hs σ (m δ) (Q W)
def tOf (K : Frag) (E : XQ) (ps : List Nat) (m : M D) : TE := fun σ H Q => Cf K E ps m σ H fun _ d Hs' H' _ => ∀ v, Rp K Hs' v d → Q v H'
def tOfT (K : Frag) (E : XQ) (ps : List Nat) (m : M Bool) : TT := fun σ H Q => Cf K E ps m σ H fun _ b _ H' _ => Q b H'
def tOfO (K : Frag) (E : XQ) (ps : List Nat) (m : M (List D)) : TE := fun σ H Q => Cf K E ps m σ H fun W xs Hs' H' δ' => ∀ a, FrO K W Hs' H' σ δ' a xs → Q (.ref a) H'
/-- an argument: shared data, or a list of one's own -/
inductive Ag where
  | sh (d : D)
  | ow (i : Nat)
def AgR (K : Frag) (Hs : Hp) (σ : L2.St) : List V → List Ag → Prop
  | [], [] => True
  | v :: vs, .sh d :: gs => Rp K Hs v d ∧ AgR K Hs σ vs gs
  | v :: vs, .ow i :: gs => σ[i]? = some (some v) ∧ AgR K Hs σ vs gs
  | _, _ => False
def tOfA (K : Frag) (E : XQ) (ps : List Nat) (m : M (List Ag)) : TA := fun σ H Q => Cf K E ps m σ H fun _ gs Hs' H' _ => ∀ vs, AgR K Hs' σ vs gs → Q vs H'
theorem AgR.ex {K : Frag} {Hs Hs' : Hp} {σ : L2.St} (e : Ex Hs Hs') : ∀ {vs : List V} {gs : List Ag}, AgR K Hs σ vs gs → AgR K Hs' σ vs gs
  | [], [], _ => trivial
  | [], _ :: _, h => h.elim
  | _ :: _, [], h => h.elim
  | _ :: _, .sh _ :: _, h => ⟨h.1.ex e, AgR.ex e h.2⟩
  | _ :: _, .ow _ :: _, h => ⟨h.1, AgR.ex e h.2⟩
section
variable {K : Frag} {E : XQ} {ps : List Nat} {W : Wd} {Hs H : Hp} {σ : L2.St} {δ : Env}
/-- one step of a run: a part is run, the rest goes on -/
theorem Cf.step {α β : Type} {ma : M α} {f : α → M β} {QQ : β → Hp → Hp → Env → Prop} {R : Wd → α → Hp → Hp → Env → Prop} (hp : W.pn.map (·.1) = ps) (re : RE K W Hs H σ δ) (po : Post K E W Hs σ (mBind ma f δ) QQ)
    (k : ∀ a Hs1 H1 δ1, Ex Hs Hs1 → RE K W Hs1 H1 σ δ1 → Post K E W Hs1 σ (f a δ1) QQ → R W a Hs1 H1 δ1) : Cf K E ps ma σ H R := by
  refine ⟨W, Hs, δ, hp, re, ?_⟩
  unfold mBind at po
  cases h : ma δ with
  | ok a δ1 =>
    rw [h] at po
    exact fun Hs' H' e r => k a Hs' H' δ1 e r (Post.ex po e)
  | exc x δ1 =>
    rw [h] at po
    exact po
  | bad =>
    rw [h] at po
    exact po
theorem tOf.step {β : Type} {ma : M D} {f : D → M β} {QQ : β → Hp → Hp → Env → Prop} {R : V → Hp → Prop} (hp : W.pn.map (·.1) = ps) (re : RE K W Hs H σ δ) (po : Post K E W Hs σ (mBind ma f δ) QQ)
    (k : ∀ v d Hs1 H1 δ1, Ex Hs Hs1 → RE K W Hs1 H1 σ δ1 → Rp K Hs1 v d → Post K E W Hs1 σ (f d δ1) QQ → R v H1) : tOf K E ps ma σ H R :=
  Cf.step hp re po fun d Hs1 H1 δ1 e r p v rv => k v d Hs1 H1 δ1 e r rv p
theorem tOfT.step {β : Type} {ma : M Bool} {f : Bool → M β} {QQ : β → Hp → Hp → Env → Prop} {R : Bool → Hp → Prop} (hp : W.pn.map (·.1) = ps) (re : RE K W Hs H σ δ) (po : Post K E W Hs σ (mBind ma f δ) QQ)
    (k : ∀ b Hs1 H1 δ1, Ex Hs Hs1 → RE K W Hs1 H1 σ δ1 → Post K E W Hs1 σ (f b δ1) QQ → R b H1) : tOfT K E ps ma σ H R :=
  Cf.step hp re po k
theorem tOfA.step {β : Type} {ma : M (List Ag)} {f : List Ag → M β} {QQ : β → Hp → Hp → Env → Prop} {R : List V → Hp → Prop} (hp : W.pn.map (·.1) = ps) (re : RE K W Hs H σ δ) (po : Post K E W Hs σ (mBind ma f δ) QQ)
    (k : ∀ vs gs Hs1 H1 δ1, Ex Hs Hs1 → RE K W Hs1 H1 σ δ1 → AgR K Hs1 σ vs gs → Post K E W Hs1 σ (f gs δ1) QQ → R vs H1) : tOfA K E ps ma σ H R :=
  Cf.step hp re po fun gs Hs1 H1 δ1 e r p vs rv => k vs gs Hs1 H1 δ1 e r rv p
theorem tOfO.step {β : Type} {ma : M (List D)} {f : List D → M β} {QQ : β → Hp → Hp → Env → Prop} {R : V → Hp → Prop} (hp : W.pn.map (·.1) = ps) (re : RE K W Hs H σ δ) (po : Post K E W Hs σ (mBind ma f δ) QQ)
    (k : ∀ a xs Hs1 H1 δ1, Ex Hs Hs1 → RE K W Hs1 H1 σ δ1 → FrO K W Hs1 H1 σ δ1 a xs → Post K E W Hs1 σ (f xs δ1) QQ → R (.ref a) H1) : tOfO K E ps ma σ H R :=
  Cf.step hp re po fun xs Hs1 H1 δ1 e r p a fa => k a xs Hs1 H1 δ1 e r fa p
/-- the last part of a run -/
theorem Cf.last {α : Type} {ma : M α} {R : Wd → α → Hp → Hp → Env → Prop} (hp : W.pn.map (·.1) = ps) (re : RE K W Hs H σ δ) (po : Post K E W Hs σ (ma δ) (R W)) : Cf K E ps ma σ H R := ⟨W, Hs, δ, hp, re, po⟩
theorem Post.opt {α : Type} {o : Option α} {QQ : α → Hp → Hp → Env → Prop} (po : Post K E W Hs σ (mOpt o δ) QQ) : ∃ a, o = some a ∧ Post K E W Hs σ (.ok a δ) QQ := by
  unfold mOpt at po
  cases o with
  | none => exact po.elim
  | some a => exact ⟨a, rfl, po⟩
end
theorem pe_imp {X : Cx} {e : Expr} {t t' : TE} (h : PE X e t) (k : ∀ σ H Q, t' σ H Q → t σ H Q) : PE X e t' := ⟨fun pins s σ H Q I q => h.run pins s σ H Q I (k σ H Q q)⟩
theorem pt_imp {X : Cx} {e : Expr} {t t' : TT} (h : PT X e t) (k : ∀ σ H Q, t' σ H Q → t σ H Q) : PT X e t' := ⟨fun pins s σ H Q I q => h.run pins s σ H Q I (k σ H Q q)⟩
theorem pw_imp {X : Cx} {e : Expr} {t t' : TT} (h : PW X e t) (k : ∀ σ H Q, t' σ H Q → t σ H Q) : PW X e t' := ⟨fun wh pins s σ H Q I q => h.run wh pins s σ H Q I (k σ H Q q)⟩
theorem pa_imp {X : Cx} {e : List Expr} {t t' : TA} (h : PA X e t) (k : ∀ σ H Q, t' σ H Q → t σ H Q) : PA X e t' := ⟨fun p pins s σ H Q I q => h.run p pins s σ H Q I (k σ H Q q)⟩
theorem pst_imp {X : Cx} {e : Stmt} {t t' : TS} (h : PS X e t) (k : ∀ D σ H, t' D σ H → t D σ H) : PS X e t' := ⟨fun pins s σ H D I q => h.run pins s σ H D I (k D σ H q)⟩
theorem pss_imp {X : Cx} {e : List Stmt} {t t' : TS} (h : PSs X e t) (k : ∀ D σ H, t' D σ H → t D σ H) : PSs X e t' := ⟨fun pins s σ H D I q => h.run pins s σ H D I (k D σ H q)⟩
section
variable {X : Cx} {E : XQ} {ps : List Nat} {a b e : Expr} {pos : Pos} {ma mb : M D}
def mVar (i : Nat) : M D := fun δ => match δ[i]? with
  | some (.sh d) => .ok d δ
  | _ => .bad
theorem je_var {i : Nat} {x : Str} (hN : X.N[i]? = some x) (hv : Vis X.env.scope x) (hd : (x == ("__debug__" : Str)) = false := by decide) (hcd : (x == ("__classdict__" : Str)) = false := by decide) : PE X (.Name x pos) (tOf X.K E ps (mVar i)) :=
  pe_imp (pe_var hN hv hd hcd) fun σ H Q ⟨W, Hs, δ, hp, re, po⟩ => by
    unfold mVar at po
    split at po
    · rename_i d hd
      obtain ⟨v, h1, h2⟩ := re.sh i d hd
      exact ⟨v, h1, po Hs H (Ex.refl _) re v h2⟩
    · exact po.elim
/-- a constant -/
def mC (d : D) : M D := mPure d
theorem je_c {t : TE} {d : D} {v : V} (h : PE X e (tC v)) (hv : ∀ H, Rp X.K H v d) : PE X e (tOf X.K E ps (mC d)) :=
  pe_imp h fun σ H Q ⟨W, Hs, δ, hp, re, po⟩ => Post.of po re v (hv Hs)
theorem je_int {i : Int} {j pos} : PE X (.Constant (.int i) j pos) (tOf X.K E ps (mC (.int i))) := je_c (t := tC (.int i)) pe_int fun _ => .int i
theorem je_bl {i : Bool} {j pos} : PE X (.Constant (.bool i) j pos) (tOf X.K E ps (mC (.bool i))) := je_c (t := tC (.bl i)) pe_bl fun _ => .bl i
theorem je_non {j pos} : PE X (.Constant .none j pos) (tOf X.K E ps (mC .none)) := je_c (t := tC .non) pe_non fun _ => .non
theorem je_str {x : Str} {j pos} : PE X (.Constant (.str x) j pos) (tOf X.K E ps (mC (.str x))) := je_c (t := tC (.str x)) pe_str fun _ => .str x
theorem je_glob {x : Str} {v : V} {u : Value} {d : D} (hg : Gl X x) (hm : X.mg x = some u) (r : RelV v u) (hv : ∀ H, Rp X.K H v d) (hd : (x == ("__debug__" : Str)) = false := by decide) : PE X (.Name x pos) (tOf X.K E ps (mC d)) := je_c (t := tC v) (pe_glob hg hm r hd) hv
/-- a reading by values gives what a function upon data tells -/
def OpS (K : Frag) (r : R2) (g : D → D → Option D) : Prop := ∀ Hs H x y d e c (Q : VK), Ex Hs H → Rp K Hs x d → Rp K Hs y e → g d e = some c → (∀ v Hs' H', Gr Hs H Hs' H' → Rp K Hs' v c → Q v H') → r x y H Q
theorem OpS.or {K : Frag} {r r' : R2} {g g' : D → D → Option D} (h : OpS K r g) (h' : OpS K r' g') : OpS K (fun x y H Q => r x y H Q ∨ r' x y H Q) (fun d e => (g d e).or (g' d e)) := fun Hs H x y d e c Q ex rx ry hg k => by
  have hg : (g d e).or (g' d e) = some c := hg
  cases q : g d e with
  | some c' =>
    rw [q] at hg
    have hc : c' = c := by simpa using hg
    subst hc
    exact .inl (h Hs H x y d e c' Q ex rx ry q k)
  | none =>
    rw [q] at hg
    exact .inr (h' Hs H x y d e c Q ex rx ry (by simpa using hg) k)
def mBin (g : D → D → Option D) (ma mb : M D) : M D := mBind ma fun d => mBind mb fun e => mOpt (g d e)
theorem binS {r : R2} {g : D → D → Option D} (hr : OpS X.K r g) {σ : L2.St} {H : Hp} {Q : VK} (h : tOf X.K E ps (mBin g ma mb) σ H Q) : tOp r (tOf X.K E ps ma) (tOf X.K E ps mb) σ H Q := by
  obtain ⟨W, Hs, δ, hp, re, po⟩ := h
  refine tOf.step hp re po fun x d Hs1 H1 δ1 e1 re1 r1 po1 => ?_
  refine tOf.step hp re1 po1 fun y e Hs2 H2 δ2 e2 re2 r2 po2 => ?_
  obtain ⟨c, hc, po3⟩ := Post.opt po2
  exact hr Hs2 H2 x y d e c Q re2.ex (r1.ex e2) r2 hc fun v Hs' H' g rv => Post.grow po3 re2 g v rv
theorem je_bin {op : Operator} {r : R2} {g : D → D → Option D} (ho : OpR X (binaryOp op) r) (hr : OpS X.K r g) (ha : PE X a (tOf X.K E ps ma)) (hb : PE X b (tOf X.K E ps mb)) : PE X (.BinOp a op b pos) (tOf X.K E ps (mBin g ma mb)) :=
  pe_imp (pe_op ho ha hb) fun _ _ _ h => binS hr h
theorem je_cmp {op : CmpOp} {r : R2} {g : D → D → Option D} (ho : OpR X (compareOp op) r) (hr : OpS X.K r g) (ha : PE X a (tOf X.K E ps ma)) (hb : PE X b (tOf X.K E ps mb)) (hm : behindInMarks op b = false) : PE X (.Compare a [op] [b] pos) (tOf X.K E ps (mBin g ma mb)) :=
  pe_imp (pe_cmpR ho ha hb hm) fun _ _ _ h => binS hr h
def toB : D → Option Bool
  | .bool b => some b
  | _ => none
def mTest (m : M D) : M Bool := mBind m fun d => mOpt (toB d)
theorem testS {t : TE} {m : M D} (h : ∀ σ H Q, tOf X.K E ps m σ H Q → t σ H Q) {σ : L2.St} {H : Hp} {Q : Bool → Hp → Prop} (q : tOfT X.K E ps (mTest m) σ H Q) : tTest t σ H Q := by
  obtain ⟨W, Hs, δ, hp, re, po⟩ := q
  refine h _ _ _ (tOf.step hp re po fun x d Hs1 H1 δ1 e1 re1 r1 po1 => ?_)
  obtain ⟨c, hc, po3⟩ := Post.opt po1
  cases r1 <;> simp [toB] at hc
  subst hc
  exact ⟨_, rfl, Post.of po3 re1⟩
theorem jt_cmp {op : CmpOp} {r : R2} {g : D → D → Option D} (ho : OpR X (compareOp op) r) (hr : OpS X.K r g) (ha : PE X a (tOf X.K E ps ma)) (hb : PE X b (tOf X.K E ps mb)) (hm : behindInMarks op b = false) : PT X (.Compare a [op] [b] pos) (tOfT X.K E ps (mTest (mBin g ma mb))) :=
  pt_imp (pt_cmpR ho ha hb hm) fun _ _ _ h => testS (fun _ _ _ => binS hr) h
/-- an expression that is True or False, as a test -/
theorem jt_val {m : M D} (h : PE X e (tOf X.K E ps m)) (he : ∀ whole, isTrue e X.env whole = (do let v ← whole; standAt e.pos; holding [v] (truthy v)) := by intro _; rfl) : PT X e (tOfT X.K E ps (mTest m)) :=
  pt_imp (pt_val h he) fun _ _ _ q => testS (fun _ _ _ z => z) q
def mChain (g g' : D → D → Option D) (ma mb mc : M D) : M D := mBind ma fun d => mBind mb fun e => mBind (mOpt ((g d e).bind toB)) fun k => if k then mBind mc fun f => mOpt (g' e f) else mPure (.bool false)
variable {c : Expr} {mc : M D}
/-- comparisons that give truths and lay nothing -/
def OpB (K : Frag) (r : R2) (g : D → D → Option D) : Prop := ∀ Hs H x y d e k (Q : VK), Ex Hs H → Rp K Hs x d → Rp K Hs y e → (g d e).bind toB = some k → Q (.bl k) H → r x y H Q
theorem chainS {r r' : R2} {g g' : D → D → Option D} (hr : OpB X.K r g) (hr' : OpS X.K r' g') {σ : L2.St} {H : Hp} {Q : VK} (h : tOf X.K E ps (mChain g g' ma mb mc) σ H Q) : tChain r r' (tOf X.K E ps ma) (tOf X.K E ps mb) (tOf X.K E ps mc) σ H Q := by
  obtain ⟨W, Hs, δ, hp, re, po⟩ := h
  refine tOf.step hp re po fun x d Hs1 H1 δ1 e1 re1 r1 po1 => ?_
  refine tOf.step hp re1 po1 fun y e Hs2 H2 δ2 e2 re2 r2 po2 => ?_
  have q : ∃ k, (g d e).bind toB = some k ∧ Post X.K E W Hs2 σ ((if k then mBind mc fun f => mOpt (g' e f) else mPure (.bool false)) δ2) fun d Hs' H' _ => ∀ v, Rp X.K Hs' v d → Q v H' := by
    unfold mBind at po2
    unfold mOpt at po2
    cases z : (g d e).bind toB with
    | none => rw [z] at po2; exact po2.elim
    | some k => rw [z] at po2; exact ⟨k, rfl, po2⟩
  obtain ⟨k, hk, po3⟩ := q
  refine hr Hs2 H2 x y d e k _ re2.ex (r1.ex e2) r2 hk ⟨k, rfl, ?_⟩
  cases k with
  | true =>
    rw [if_pos rfl] at po3 ⊢
    refine tOf.step hp re2 po3 fun z f Hs3 H3 δ3 e3 re3 r3 po4 => ?_
    obtain ⟨c, hc, po5⟩ := Post.opt po4
    exact hr' Hs3 H3 y z e f c Q re3.ex (r2.ex e3) r3 hc fun v Hs' H' g rv => Post.grow po5 re3 g v rv
  | false =>
    rw [if_neg Bool.false_ne_true] at po3 ⊢
    exact Post.of po3 re2 _ (.bl false)
end
end Dn
namespace Dn
open PySem PySem.Spec PyProof.Rows L2
section
variable {X : Cx} {K : Frag}
/-- two lists that stand in the heap, put together -/
def rCatR (K : Frag) : R2 := fun x y H Q => ∃ (l b : Addr) (xs zs : List V), x = .ref l ∧ y = .ref b ∧ SqL K H l xs ∧ SqL K H b zs ∧ xs.length + zs.length ≤ sizeLine ∧ ∀ p, H p = none → Q (.ref p) (upd H p (.lst (xs ++ zs)))
theorem op_catR : OpR X (binaryOp .Add) (rCatR X.K) := by
  intro pins s σ H x y v u Q I rx ry h
  obtain ⟨l, b, xs, zs, e1, e2, hl, hb, hz, q⟩ := h
  subst e1; subst e2
  obtain rfl : v = Value.ref l := rx
  obtain rfl : u = Value.ref b := ry
  obtain ⟨its, r1, ⟨o1, n1, g1, c1, d1, t1⟩, _⟩ := I.list hl
  obtain ⟨jts, r2, ⟨o2, n2, g2, c2, d2, t2⟩, _⟩ := I.list hb
  cases o1
  cases o2
  simp only at c1 d1 t1 c2 d2 t2
  subst c1 d1 t1 c2 d2 t2
  have m1 := r1.length
  have m2 := r2.length
  have ea : its.toArray ++ jts.toArray = (its ++ jts).toArray := by simp
  refine concat_meets ⟨_, g1, rfl⟩ ⟨_, g2, rfl⟩ noFill_list_add seq_list_add PySem.F.slot_list_add PySem.F.entry_list_add
    (PySem.F.args_list_add_2 _ _) (PyProof.Rows.list_addW l b its.toArray jts.toArray _ _ _ _ _ _ (by simp only [List.size_toArray]; omega)) ⟨g1, g2, ?_⟩
  rw [ea]
  have hlen : (xs ++ zs).length ≤ sizeLine := by simp only [List.length_append]; omega
  exact ⟨.ref _, _, I.lnew (t' := s.toks) (r1.append r2) hlen, rfl, q _ I.fresh⟩
def rAddA (K : Frag) : R2 := fun x y H Q => (rI0 fun i j => .int (i + j)) x y H Q ∨ (∃ i j, x = .str i ∧ y = .str j ∧ i.length + j.length ≤ sizeLine ∧ Q (.str (i ++ j)) H) ∨ rCatA K x y H Q ∨ rCatR K x y H Q
theorem op_addA : OpR X (binaryOp .Add) (rAddA X.K) := op_add.or (op_add_str.or (op_catA.or op_catR))
def dAdd : D → D → Option D
  | .int i, .int j => some (.int (i + j))
  | .str x, .str y => if x.length + y.length ≤ sizeLine then some (.str (x ++ y)) else none
  | .tuple xs, .tuple ys => if xs.length + ys.length ≤ sizeLine then some (.tuple (xs ++ ys)) else none
  | .list xs, .list ys => if xs.length + ys.length ≤ sizeLine then some (.list (xs ++ ys)) else none
  | _, _ => none
theorem Rps.nil_iff {H : Hp} {vs : List V} {ds : List D} (h : Rps K H vs ds) : vs = [] ↔ ds = [] := by
  cases h <;> simp
theorem os_add : OpS K (rAddA K) dAdd := fun Hs H x y d e c Q ex rx ry hg k => by
  cases rx with
  | int i =>
    cases ry <;> simp [dAdd] at hg
    subst hg
    exact .inl ⟨i, _, rfl, rfl, k _ Hs H (.refl ex) (.int _)⟩
  | str a =>
    cases ry <;> simp [dAdd] at hg
    obtain ⟨hl, hg⟩ := hg
    subst hg
    exact .inr (.inl ⟨a, _, rfl, rfl, hl, k _ Hs H (.refl ex) (.str _)⟩)
  | tup h1 t1 =>
    cases ry with
    | tup h2 t2 =>
      simp [dAdd] at hg
      obtain ⟨hl, hg⟩ := hg
      subst hg
      refine .inr (.inr (.inl ⟨_, _, _, _, rfl, rfl, sqT_ex ex h1, sqT_ex ex h2, by rw [t1.length, t2.length]; exact hl, fun z => ?_, fun z1 z2 => ?_, fun z1 z2 p hp => ?_⟩))
      · have z' := t1.nil_iff.mp z
        subst z'
        exact k _ Hs H (.refl ex) (.tup h2 t2)
      · have z' := t2.nil_iff.mp z2
        subst z'
        exact k _ Hs H (.refl ex) (by rw [List.append_nil]; exact .tup h1 t1)
      · exact k _ _ _ (Gr.new ex hp) (.tup (StT.of upd_same) ((t1.append t2).ex (Gr.new ex hp).s))
    | _ => simp [dAdd] at hg
  | lst h1 t1 =>
    cases ry with
    | lst h2 t2 =>
      simp [dAdd] at hg
      obtain ⟨hl, hg⟩ := hg
      subst hg
      refine .inr (.inr (.inr ⟨_, _, _, _, rfl, rfl, sqL_ex ex h1, sqL_ex ex h2, by rw [t1.length, t2.length]; exact hl, fun p hp => ?_⟩))
      exact k _ _ _ (Gr.new ex hp) (.lst (SqL.of upd_same) ((t1.append t2).ex (Gr.new ex hp).s))
    | _ => simp [dAdd] at hg
  | _ => cases ry <;> simp [dAdd] at hg
/-- two ints -/
def dI (C : Int → Int → Bool) (f : Int → Int → Int) : D → D → Option D
  | .int i, .int j => if C i j then some (.int (f i j)) else none
  | _, _ => none
theorem os_I {P : Int → Int → Prop} {C : Int → Int → Bool} {f : Int → Int → Int} (hC : ∀ i j, C i j = true → P i j) : OpS K (rI P fun i j => .int (f i j)) (dI C f) := fun Hs H x y d e c Q ex rx ry hg k => by
  cases rx with
  | int i =>
    cases ry <;> simp [dI] at hg
    obtain ⟨hc, hg⟩ := hg
    subst hg
    exact ⟨i, _, rfl, rfl, hC _ _ hc, k _ Hs H (.refl ex) (.int _)⟩
  | _ => cases ry <;> simp [dI] at hg
abbrev dSub := dI (fun _ _ => true) (fun i j => i - j)
abbrev dMod := dI (fun _ j => decide (0 < j)) (fun i j => i % j)
theorem os_mod : OpS K (rI (fun _ j => 0 < j) fun i j => .int (i % j)) dMod := os_I fun _ _ h => of_decide_eq_true h
abbrev dDiv := dI (fun _ j => decide (0 < j ∧ j < 4611686018427387904)) (fun i j => i / j)
theorem os_div : OpS K (rI CDivW fun i j => .int (i / j)) dDiv := os_I fun i j h => by
  obtain ⟨h1, h2⟩ := (of_decide_eq_true h : 0 < j ∧ j < 4611686018427387904)
  refine ⟨h1, Nat.lt_trans (Nat.log2_lt (by omega) |>.mpr (?_ : j.natAbs < 2 ^ 62)) (by decide)⟩
  omega
abbrev dPow := dI (fun i j => decide (0 ≤ j ∧ j ≤ 1000000 ∧ i.natAbs < 2 ^ 64)) (fun i j => i ^ j.toNat)
theorem os_pow : OpS K (rI CPow fun i j => .int (i ^ j.toNat)) dPow := os_I fun i j h => (of_decide_eq_true h : 0 ≤ j ∧ j ≤ 1000000 ∧ i.natAbs < 2 ^ 64)
theorem rep_size (a : Array Nat) : ∀ (n : Nat) (acc : Array Nat), ((List.replicate n a).foldl (· ++ ·) acc).size = acc.size + n * a.size
  | 0, acc => by simp
  | n + 1, acc => by
    rw [List.replicate_succ, List.foldl_cons, rep_size a n, Array.size_append, Nat.succ_mul]
    omega
/-- a text some times -/
def strRep (x : Str) (n : Int) : Str := if n < 1 then Str.empty else if (n == 1 || x.length == 0) = true then x else ⟨(List.replicate n.toNat x.cps).foldl (· ++ ·) #[]⟩
def rRepS : R2 := fun x y H Q => ∃ z n, x = .str z ∧ y = .int n ∧ (-1000000 ≤ n ∧ n ≤ 1000000 ∧ z.length ≤ 16) ∧ Q (.str (strRep z n)) H
theorem op_repS : OpR X (binaryOp .Mult) rRepS := by
  intro pins s σ H x y v u Q I rx ry h
  obtain ⟨z, n, e1, e2, ⟨h1, h2, h3⟩, q⟩ := h
  subst e1; subst e2
  obtain ⟨t, rfl⟩ := rx
  obtain ⟨t', rfl⟩ := ry
  have hz : z.length * n.toNat ≤ 16000000 := Nat.le_trans (Nat.mul_le_mul h3 (show n.toNat ≤ 1000000 by omega)) (by decide)
  refine PySem.P.mul_str ?_ (fun a b => ?_) (fun a b => ?_) ?_
  · rw [decide_eq_false (by omega), decide_eq_false (by omega)]; rfl
  · have hn : 1 ≤ n := by omega
    intro hc
    have : (16 : Int) ≤ (2 ^ 63 - 1) / n := by
      refine (Int.le_ediv_iff_mul_le (by omega)).mpr ?_
      omega
    omega
  · unfold Builtin.Str.tooLong
    have h16 : (16000000 : Nat) ≤ sizeLine := by decide
    simp
    omega
  · unfold strRep at q
    split
    · rename_i hn
      rw [if_pos hn] at q
      exact ⟨by decide, ⟨.str Str.empty, H, I.tok _, ⟨_, rfl⟩, q⟩⟩
    · rename_i hn
      rw [if_neg hn] at q
      split
      · rename_i hb
        rw [if_pos hb] at q
        exact ⟨.str z, H, I, ⟨_, rfl⟩, q⟩
      · rename_i hb
        rw [if_neg hb] at q
        refine ⟨?_, ⟨.str _, H, I.tok _, ⟨_, rfl⟩, q⟩⟩
        have h16 : (16000000 : Nat) ≤ sizeLine := by decide
        show (Array.size _) ≤ sizeLine
        rw [rep_size]
        have hm : n.toNat * z.cps.size ≤ 16000000 := by rw [Nat.mul_comm]; exact hz
        simp only [List.size_toArray, List.length_nil]
        omega
end
end Dn
namespace Dn
open PySem PySem.Spec PyProof.Rows L2
section
variable {X : Cx} {K : Frag}
def dMul : D → D → Option D
  | .int i, .int j => if (-(2 ^ 64) < i ∧ i < 2 ^ 64) ∨ (-(2 ^ 64) < j ∧ j < 2 ^ 64) then some (.int (i * j)) else none
  | .str x, .int n => if -1000000 ≤ n ∧ n ≤ 1000000 ∧ x.length ≤ 16 then some (.str (strRep x n)) else none
  | _, _ => none
def rMulA : R2 := fun x y H Q => (rI CMul fun i j => .int (i * j)) x y H Q ∨ rRepS x y H Q
theorem op_mulA : OpR X (binaryOp .Mult) rMulA := op_mul.or op_repS
theorem os_mul : OpS K rMulA dMul := fun Hs H x y d e c Q ex rx ry hg k => by
  cases rx with
  | int i =>
    cases ry <;> simp only [dMul, Option.ite_none_right_eq_some, Option.some.injEq, reduceCtorEq] at hg
    obtain ⟨hc, hg⟩ := hg
    subst hg
    exact .inl ⟨i, _, rfl, rfl, hc, k _ Hs H (.refl ex) (.int _)⟩
  | str z =>
    cases ry <;> simp only [dMul, Option.ite_none_right_eq_some, Option.some.injEq, reduceCtorEq] at hg
    obtain ⟨hc, hg⟩ := hg
    subst hg
    exact .inr ⟨z, _, rfl, rfl, hc, k _ Hs H (.refl ex) (.str _)⟩
  | _ => cases ry <;> simp [dMul] at hg
def dEqB : D → D → Option Bool
  | .str x, .str y => some (decide (x = y))
  | d, e => if SeqAt.shaped d = true ∧ SeqAt.shaped e = true then some (PyData.eqv d e) else none
def dEq (d e : D) : Option D := (dEqB d e).map PyData.bool
def dNe (d e : D) : Option D := (dEqB d e).map fun b => PyData.bool (!b)
def rEqA (K : Frag) (neg : Bool) : R2 := fun x y H Q => (∃ i j, x = .str i ∧ y = .str j ∧ Q (.bl (if neg then !decide (i = j) else decide (i = j))) H) ∨ ∃ d e, Dp K H x d ∧ Dp K H y e ∧ SeqAt.shaped d = true ∧ SeqAt.shaped e = true ∧ Q (.bl (if neg then !PyData.eqv d e else PyData.eqv d e)) H
theorem op_eqA (hu : X.A.units + 64 < cLine) : OpR X (compareOp .Eq) (rEqA X.K false) := by
  refine OpR.or (fun pins s σ H x y v u Q I rx ry h => ?_) (op_eqD hu)
  obtain ⟨i, j, e1, e2, q⟩ := h
  subst e1; subst e2
  refine op_eq pins s σ H _ _ v u Q I rx ry ⟨rfl, ?_⟩
  have e : decide (V.str i = V.str j) = decide (i = j) := by by_cases h : i = j <;> simp [h]
  rw [e]; exact q
theorem op_neA (hu : X.A.units + 64 < cLine) : OpR X (compareOp .NotEq) (rEqA X.K true) := by
  refine OpR.or (fun pins s σ H x y v u Q I rx ry h => ?_) (op_neD hu)
  obtain ⟨i, j, e1, e2, q⟩ := h
  subst e1; subst e2
  refine op_ne pins s σ H _ _ v u Q I rx ry ⟨rfl, ?_⟩
  have e : decide (V.str i = V.str j) = decide (i = j) := by by_cases h : i = j <;> simp [h]
  rw [e]; exact q
theorem eqS {neg : Bool} {Hs H : Hp} {x y : V} {d e : D} {b : Bool} {Q : VK} (ex : Ex Hs H) (rx : Rp K Hs x d) (ry : Rp K Hs y e) (hg : dEqB d e = some b) (q : Q (.bl (if neg then !b else b)) H) : rEqA K neg x y H Q := by
  have gen : (if SeqAt.shaped d = true ∧ SeqAt.shaped e = true then some (PyData.eqv d e) else none) = some b → rEqA K neg x y H Q := fun h => by
    simp only [Option.ite_none_right_eq_some, Option.some.injEq] at h
    obtain ⟨⟨h1, h2⟩, h⟩ := h
    exact .inr ⟨d, e, (rx.ex ex).dp, (ry.ex ex).dp, h1, h2, by rw [h]; exact q⟩
  by_cases hs : ∃ i j, d = .str i ∧ e = .str j
  · obtain ⟨i, j, e1, e2⟩ := hs
    subst e1; subst e2
    cases rx
    cases ry
    have hb : decide (i = j) = b := Option.some.inj hg
    exact .inl ⟨i, j, rfl, rfl, by rw [hb]; exact q⟩
  · refine gen ?_
    rw [← hg]
    cases d <;> first | rfl | (cases e <;> first | rfl | exact absurd ⟨_, _, rfl, rfl⟩ hs)
theorem os_eq : OpS K (rEqA K false) dEq := fun Hs H x y d e c Q ex rx ry hg k => by
  unfold dEq at hg
  cases h : dEqB d e with
  | none => rw [h] at hg; simp at hg
  | some b =>
    rw [h] at hg
    have hc : PyData.bool b = c := by simpa using hg
    subst hc
    exact eqS ex rx ry h (k _ Hs H (.refl ex) (.bl _))
theorem os_ne : OpS K (rEqA K true) dNe := fun Hs H x y d e c Q ex rx ry hg k => by
  unfold dNe at hg
  cases h : dEqB d e with
  | none => rw [h] at hg; simp at hg
  | some b =>
    rw [h] at hg
    have hc : PyData.bool (!b) = c := by simpa using hg
    subst hc
    exact eqS ex rx ry h (k _ Hs H (.refl ex) (.bl _))
/-- order: ints, texts -/
def dOrd (f : Int → Int → Bool) (g : Str → Str → Bool) : D → D → Option D
  | .int i, .int j => some (.bool (f i j))
  | .str x, .str y => some (.bool (g x y))
  | _, _ => none
def rOrd (f : Int → Int → Bool) (g : Str → Str → Bool) : R2 := fun x y H Q => (rI0 fun i j => .bl (f i j)) x y H Q ∨ (∃ i j, x = .str i ∧ y = .str j ∧ Q (.bl (g i j)) H)
theorem os_ord {f : Int → Int → Bool} {g : Str → Str → Bool} : OpS K (rOrd f g) (dOrd f g) := fun Hs H x y d e c Q ex rx ry hg k => by
  cases rx with
  | int i =>
    cases ry <;> simp [dOrd] at hg
    subst hg
    exact .inl ⟨i, _, rfl, rfl, k _ Hs H (.refl ex) (.bl _)⟩
  | str z =>
    cases ry <;> simp [dOrd] at hg
    subst hg
    exact .inr ⟨z, _, rfl, rfl, k _ Hs H (.refl ex) (.bl _)⟩
  | _ => cases ry <;> simp [dOrd] at hg
theorem ob_ord {f : Int → Int → Bool} {g : Str → Str → Bool} : OpB K (rOrd f g) (dOrd f g) := fun Hs H x y d e k Q ex rx ry hg q => by
  cases rx with
  | int i =>
    cases ry <;> simp [dOrd, toB] at hg
    subst hg
    exact .inl ⟨i, _, rfl, rfl, q⟩
  | str z =>
    cases ry <;> simp [dOrd, toB] at hg
    subst hg
    exact .inr ⟨z, _, rfl, rfl, q⟩
  | _ => cases ry <;> simp [dOrd] at hg
abbrev dLt := dOrd (fun i j => decide (i < j)) (fun x y => decide (x.cps.toList < y.cps.toList))
abbrev dLe := dOrd (fun i j => decide (i ≤ j)) (fun x y => !decide (y.cps.toList < x.cps.toList))
abbrev dGt := dOrd (fun i j => decide (j < i)) (fun x y => decide (y.cps.toList < x.cps.toList))
abbrev dGe := dOrd (fun i j => decide (j ≤ i)) (fun x y => !decide (x.cps.toList < y.cps.toList))
theorem op_ltA : OpR X (compareOp .Lt) (rOrd (fun i j => decide (i < j)) (fun x y => decide (x.cps.toList < y.cps.toList))) := op_lt.or op_lt_str
theorem op_leA : OpR X (compareOp .LtE) (rOrd (fun i j => decide (i ≤ j)) (fun x y => !decide (y.cps.toList < x.cps.toList))) := op_le.or op_le_str
theorem op_gtA : OpR X (compareOp .Gt) (rOrd (fun i j => decide (j < i)) (fun x y => decide (y.cps.toList < x.cps.toList))) := op_gt.or op_gt_str
theorem op_geA : OpR X (compareOp .GtE) (rOrd (fun i j => decide (j ≤ i)) (fun x y => !decide (x.cps.toList < y.cps.toList))) := op_ge.or op_ge_str
def flatD : D → Bool
  | .none => true
  | .bool _ => true
  | .int _ => true
  | .str _ => true
  | _ => false
theorem flat_v {H : Hp} {v : V} {d : D} (r : Rp K H v d) (h : flatD d = true) : flatV v = true := by
  cases r <;> first | rfl | exact absurd h (by simp [flatD])
theorem flat_vs {H : Hp} : ∀ {vs : List V} {ds : List D}, Rps K H vs ds → ds.all flatD = true → vs.all flatV = true
  | _, _, .nil, _ => rfl
  | _, _, .cons r t, h => by
    rw [List.all_cons, Bool.and_eq_true] at h ⊢
    exact ⟨flat_v r h.1, flat_vs t h.2⟩
theorem eqv_v {H : Hp} {v w : V} {d e : D} (r : Rp K H v d) (q : Rp K H w e) (h : flatD d = true) (h' : flatD e = true) : eqV v w = PyData.eqv d e := by
  cases r <;> cases q <;> first | (simp [flatD] at h; done) | (simp [flatD] at h'; done) | (simp [eqV, PyData.eqv])
def inD (d : D) (ds : List D) : Bool := ds.any fun z => PyData.eqv z d
theorem in_v {H : Hp} {v : V} {d : D} (r : Rp K H v d) (h : flatD d = true) : ∀ {vs : List V} {ds : List D}, Rps K H vs ds → ds.all flatD = true → inV v vs = inD d ds
  | _, _, .nil, _ => rfl
  | _, _, .cons q t, h' => by
    rw [List.all_cons, Bool.and_eq_true] at h'
    have ih := in_v r h t h'.2
    unfold inV inD at ih ⊢
    rw [List.any_cons, List.any_cons, eqv_v q r h'.1 h, ih]
/-- a text in a text -/
def strIn (x y : Str) : Bool := match x.cps.toList with
  | [c] => decide (c ∈ y.cps.toList)
  | _ => !(Builtin.Str.occurrences y x 0 y.length 1).isEmpty
def dInB : D → D → Option Bool
  | .str x, .str y => some (strIn x y)
  | d, .list ds => if flatD d = true ∧ ds.all flatD = true then some (inD d ds) else none
  | d, .tuple ds => if flatD d = true ∧ ds.all flatD = true then some (inD d ds) else none
  | _, _ => none
def dIn (d e : D) : Option D := (dInB d e).map PyData.bool
def dNotIn (d e : D) : Option D := (dInB d e).map fun b => PyData.bool (!b)
def rInA (K : Frag) (neg : Bool) : R2 := fun x y H Q => rIn K neg x y H Q ∨ (∃ (c : Nat) (z : Str), x = .str ⟨#[c]⟩ ∧ y = .str z ∧ Q (.bl (if neg then !decide (c ∈ z.cps.toList) else decide (c ∈ z.cps.toList))) H) ∨
  (∃ i j, x = .str i ∧ y = .str j ∧ Q (.bl (if neg then !(!(Builtin.Str.occurrences j i 0 j.length 1).isEmpty) else !(Builtin.Str.occurrences j i 0 j.length 1).isEmpty)) H)
theorem op_inA : OpR X (compareOp .In) (rInA X.K false) := op_in_seq.or (op_in_sign.or op_in_str)
theorem strIn_one {x y : Str} {c : Nat} (h : x = ⟨#[c]⟩) : strIn x y = decide (c ∈ y.cps.toList) := by subst h; rfl
theorem inS {neg : Bool} {Hs H : Hp} {x y : V} {d e : D} {b : Bool} {Q : VK} (ex : Ex Hs H) (rx : Rp K Hs x d) (ry : Rp K Hs y e) (hg : dInB d e = some b) (q : Q (.bl (if neg then !b else b)) H) : rInA K neg x y H Q := by
  have seq : ∀ {p : Addr} {vs : List V} {ds : List D}, y = .ref p → (SqL K H p vs ∨ SqT K H p vs) → Rps K Hs vs ds → (if flatD d = true ∧ ds.all flatD = true then some (inD d ds) else none) = some b → rInA K neg x y H Q := fun {p vs ds} ey hs t h => by
    simp only [Option.ite_none_right_eq_some, Option.some.injEq] at h
    obtain ⟨⟨h1, h2⟩, h⟩ := h
    refine .inl ⟨p, vs, ey, hs, flat_v rx h1, flat_vs t h2, ?_⟩
    rw [in_v rx h1 t h2, h]
    exact q
  cases ry with
  | str z =>
    cases rx with
    | str x =>
      have hb : strIn x z = b := Option.some.inj hg
      by_cases hx : ∃ c, x = ⟨#[c]⟩
      · obtain ⟨c, hc⟩ := hx
        rw [strIn_one hc] at hb
        exact .inr (.inl ⟨c, z, by rw [hc], rfl, by rw [hb]; exact q⟩)
      · refine .inr (.inr ⟨x, z, rfl, rfl, ?_⟩)
        have hb' : (!(Builtin.Str.occurrences z x 0 z.length 1).isEmpty) = b := by
          rw [← hb]
          unfold strIn
          split
          · rename_i c hc
            refine absurd ⟨c, ?_⟩ hx
            cases x with
            | mk cps =>
              have : cps = #[c] := by rw [← Array.toList_inj]; exact hc
              rw [this]
          · rfl
        rw [hb']
        exact q
    | _ => simp [dInB] at hg
  | lst h1 t1 => exact seq rfl (.inl (sqL_ex ex h1)) t1 (by cases rx <;> simpa [dInB] using hg)
  | tup h1 t1 => exact seq rfl (.inr (sqT_ex ex h1)) t1 (by cases rx <;> simpa [dInB] using hg)
  | _ => cases rx <;> simp [dInB] at hg
theorem os_in : OpS K (rInA K false) dIn := fun Hs H x y d e c Q ex rx ry hg k => by
  unfold dIn at hg
  cases h : dInB d e with
  | none => rw [h] at hg; simp at hg
  | some b =>
    rw [h] at hg
    have hc : PyData.bool b = c := by simpa using hg
    subst hc
    exact inS ex rx ry h (k _ Hs H (.refl ex) (.bl _))
@[reducible] def isN : D → Bool
  | .none => true
  | _ => false
def dIsB : D → D → Option Bool
  | .bool a, .bool b => some (decide (a = b))
  | d, .none => some (isN d)
  | _, _ => none
def dIs (d e : D) : Option D := (dIsB d e).map PyData.bool
def dIsNot (d e : D) : Option D := (dIsB d e).map fun b => PyData.bool (!b)
def rIs (neg : Bool) : R2 := fun x y H Q => (y = .non ∧ Q (.bl (if neg then !decide (x = .non) else decide (x = .non))) H) ∨ ∃ a b, x = .bl a ∧ y = .bl b ∧ Q (.bl (if neg then !decide (a = b) else decide (a = b))) H
theorem op_isNotA : OpR X (compareOp .IsNot) (rIs true) := op_notN.or op_isnot_bl
theorem isN_v {H : Hp} {v : V} {d : D} (r : Rp K H v d) : decide (v = .non) = isN d := by
  cases r <;> simp [isN]
theorem isS {neg : Bool} {Hs H : Hp} {x y : V} {d e : D} {b : Bool} {Q : VK} (rx : Rp K Hs x d) (ry : Rp K Hs y e) (hg : dIsB d e = some b) (q : Q (.bl (if neg then !b else b)) H) : rIs neg x y H Q := by
  cases ry with
  | non =>
    have hb : isN d = b := by cases rx <;> simpa [dIsB] using hg
    refine .inl ⟨rfl, ?_⟩
    rw [isN_v rx, hb]
    exact q
  | bl z =>
    cases rx with
    | bl a =>
      have hb : decide (a = z) = b := Option.some.inj hg
      refine .inr ⟨a, z, rfl, rfl, ?_⟩
      rw [hb]
      exact q
    | _ => simp [dIsB] at hg
  | _ => cases rx <;> simp [dIsB] at hg
theorem os_isNot : OpS K (rIs true) dIsNot := fun Hs H x y d e c Q ex rx ry hg k => by
  unfold dIsNot at hg
  cases h : dIsB d e with
  | none => rw [h] at hg; simp at hg
  | some b =>
    rw [h] at hg
    have hc : PyData.bool (!b) = c := by simpa using hg
    subst hc
    exact isS rx ry h (k _ Hs H (.refl ex) (.bl _))
def dIx : D → D → Option D
  | .list xs, .int i => atI xs i
  | .tuple xs, .int i => atI xs i
  | .str z, .int i => if z.length ≤ sizeLine then (atI z.cps.toList i).map fun c => .str ⟨#[c]⟩ else none
  | _, _ => none
theorem atI_rps {H : Hp} {vs : List V} {ds : List D} {i : Int} {d : D} (t : Rps K H vs ds) (h : atI ds i = some d) : ∃ v, atI vs i = some v ∧ Rp K H v d := by
  unfold atI at h ⊢
  rw [t.length]
  cases q : ixN ds.length i with
  | none => rw [q] at h; simp at h
  | some j =>
    rw [q] at h
    simp only [Option.bind_some] at h ⊢
    exact t.get h
theorem os_ix : OpS K (rIx K) dIx := fun Hs H x y d e c Q ex rx ry hg k => by
  cases ry with
  | int i =>
    cases rx with
    | lst h t =>
      obtain ⟨v, h1, h2⟩ := atI_rps t hg
      exact .inl ⟨_, _, i, v, rfl, rfl, sqL_ex ex h, h1, k v Hs H (.refl ex) h2⟩
    | tup h t =>
      obtain ⟨v, h1, h2⟩ := atI_rps t hg
      exact .inr (.inl ⟨_, _, i, v, rfl, rfl, sqT_ex ex h, h1, k v Hs H (.refl ex) h2⟩)
    | str z =>
      simp only [dIx, Option.ite_none_right_eq_some, Option.map_eq_some_iff] at hg
      obtain ⟨hl, a, ha, hg⟩ := hg
      subst hg
      exact .inr (.inr ⟨z, i, a, rfl, rfl, hl, ha, k _ Hs H (.refl ex) (.str _)⟩)
    | _ => simp [dIx] at hg
  | _ => cases rx <;> simp [dIx] at hg
def cutD (xs : List D) (lo hi : Option Int) : List D := (xs.drop (HT.sIx xs.length 0 lo)).take (HT.sIx xs.length xs.length hi - HT.sIx xs.length 0 lo)
def dSl (d : D) (lo hi : Option Int) : Option D := match d with
  | .str z => if z.length ≤ sizeLine then some (.str (cutS z lo hi)) else none
  | .tuple xs => some (.tuple (cutD xs lo hi))
  | .list xs => some (.list (cutD xs lo hi))
  | _ => none
theorem cut_rps {H : Hp} {vs : List V} {ds : List D} {lo hi : Option Int} (t : Rps K H vs ds) : Rps K H (cutV vs lo hi) (cutD ds lo hi) := by
  unfold cutV cutD
  rw [t.length]
  exact (t.drop _).take _
def rSlZ (K : Frag) : V → Option Int → Option Int → Hp → VK → Prop := fun x lo hi H Q => rSlS x lo hi H Q ∨ rSlA K x lo hi H Q ∨ rSlL K x lo hi H Q
theorem sl_Z : SlR X (rSlZ X.K) := sl_str.or (sl_tupA.or sl_list)
theorem sl_whole {xs : List D} {lo hi : Option Int} (h : HT.sIx xs.length 0 lo = 0 ∧ HT.sIx xs.length xs.length hi = xs.length) : cutD xs lo hi = xs := by
  unfold cutD
  rw [h.1, h.2]
  simp
theorem slS {Hs H : Hp} {x : V} {d c : D} {lo hi : Option Int} {Q : VK} (ex : Ex Hs H) (rx : Rp K Hs x d) (hg : dSl d lo hi = some c) (k : ∀ v Hs' H', Gr Hs H Hs' H' → Rp K Hs' v c → Q v H') : rSlZ K x lo hi H Q := by
  cases rx with
  | str z =>
    simp only [dSl, Option.ite_none_right_eq_some, Option.some.injEq] at hg
    obtain ⟨hl, hg⟩ := hg
    subst hg
    exact .inl ⟨z, rfl, hl, k _ Hs H (.refl ex) (.str _)⟩
  | tup h t =>
    obtain rfl := Option.some.inj hg
    refine .inr (.inl ⟨_, _, rfl, sqT_ex ex h, fun z => ?_, fun z p hp => ?_⟩)
    · rw [t.length] at z
      rw [sl_whole z] at k
      exact k _ Hs H (.refl ex) (.tup h t)
    · exact k _ _ _ (Gr.new ex hp) (.tup (StT.of upd_same) ((cut_rps t).ex (Gr.new ex hp).s))
  | lst h t =>
    obtain rfl := Option.some.inj hg
    refine .inr (.inr ⟨_, _, rfl, sqL_ex ex h, fun p hp => ?_⟩)
    exact k _ _ _ (Gr.new ex hp) (.lst (SqL.of upd_same) ((cut_rps t).ex (Gr.new ex hp).s))
  | _ => simp [dSl] at hg
end
section
variable {X : Cx} {E : XQ} {ps : List Nat} {a b e : Expr} {pos : Pos} {ma mb m : M D}
theorem je_ix (ha : PE X a (tOf X.K E ps ma)) (hb : PE X b (tOf X.K E ps mb)) (hs : PlainIx b) : PE X (.Subscript a b pos) (tOf X.K E ps (mBin dIx ma mb)) :=
  pe_imp (pe_ix ix_seq ha hb hs) fun _ _ _ h => binS os_ix h
/-- a part of a slice -/
def tOfP (K : Frag) (E : XQ) (ps : List Nat) (m : M (Option Int)) : TO := fun σ H Q => Cf K E ps m σ H fun _ o _ H' _ => Q o H'
def toI : D → Option (Option Int)
  | .int i => some (some i)
  | _ => none
def mPart (m : M D) : M (Option Int) := mBind m fun d => mOpt (toI d)
def mNoPart : M (Option Int) := mPure none
theorem jp_none : PO X none (tOfP X.K E ps mNoPart) := ⟨fun pins s σ H Q I ⟨W, Hs, δ, hp, re, po⟩ => po_none.run pins s σ H Q I (Post.of po re)⟩
theorem jp_some (h : PE X e (tOf X.K E ps m)) : PO X (some e) (tOfP X.K E ps (mPart m)) := ⟨fun pins s σ H Q I ⟨W, Hs, δ, hp, re, po⟩ => (po_some h).run pins s σ H Q I (by
  refine tOf.step hp re po fun x d Hs1 H1 δ1 e1 re1 r1 po1 => ?_
  obtain ⟨c, hc, po3⟩ := Post.opt po1
  cases r1 <;> simp [toI] at hc
  subst hc
  exact ⟨_, rfl, Post.of po3 re1⟩)⟩
def mSl (m : M D) (ml mh : M (Option Int)) : M D := mBind m fun d => mBind ml fun l => mBind mh fun h => mOpt (dSl d l h)
theorem je_slice {lo hi : Option Expr} {ml mh : M (Option Int)} {p2 : Pos} (he : PE X e (tOf X.K E ps m)) (hl : PO X lo (tOfP X.K E ps ml)) (hu : PO X hi (tOfP X.K E ps mh)) : PE X (.Subscript e (.Slice lo hi none p2) pos) (tOf X.K E ps (mSl m ml mh)) :=
  pe_imp (pe_slice sl_Z he hl hu) fun σ H Q ⟨W, Hs, δ, hp, re, po⟩ => by
    refine tOf.step hp re po fun x d Hs1 H1 δ1 e1 re1 r1 po1 => ?_
    refine Cf.step hp re1 po1 fun l Hs2 H2 δ2 e2 re2 po2 => ?_
    refine Cf.step hp re2 po2 fun u Hs3 H3 δ3 e3 re3 po3 => ?_
    obtain ⟨c, hc, po4⟩ := Post.opt po3
    exact slS re3.ex ((r1.ex e2).ex e3) hc fun v Hs' H' g rv => Post.grow po4 re3 g v rv
variable {t1 t2 : M Bool} {rest : List Expr}
def mAndT (t1 t2 : M Bool) : M Bool := mBind t1 fun b => if b then t2 else mPure false
def mOrT (t1 t2 : M Bool) : M Bool := mBind t1 fun b => if b then mPure true else t2
def mNotT (t : M Bool) : M Bool := mBind t fun b => mPure (!b)
theorem jt_not (h : PT X a (tOfT X.K E ps t1)) : PT X (.UnaryOp .Not a pos) (tOfT X.K E ps (mNotT t1)) :=
  pt_imp (pt_not h) fun σ H Q ⟨W, Hs, δ, hp, re, po⟩ => tOfT.step hp re po fun b Hs1 H1 δ1 e1 re1 po1 => Post.of po1 re1
theorem jw_or1 (h : PT X a (tOfT X.K E ps t1)) : PW X (.BoolOp .Or [a] pos) (tOfT X.K E ps t1) := pw_or1 h
theorem jw_or (h : PT X a (tOfT X.K E ps t1)) (h2 : PW X (.BoolOp .Or (b :: rest) pos) (tOfT X.K E ps t2)) : PW X (.BoolOp .Or (a :: b :: rest) pos) (tOfT X.K E ps (mOrT t1 t2)) :=
  pw_imp (pw_or h h2) fun σ H Q ⟨W, Hs, δ, hp, re, po⟩ => tOfT.step hp re po fun b Hs1 H1 δ1 e1 re1 po1 => by
    cases b with
    | true => exact Post.of po1 re1
    | false => exact Cf.last hp re1 po1
/-- .. as values, all True or False but the last -/
def mAndV (m1 m2 : M D) : M D := mBind (mTest m1) fun b => if b then m2 else mPure (.bool false)
def mOrV (m1 m2 : M D) : M D := mBind (mTest m1) fun b => if b then mPure (.bool true) else m2
def mNotV (m : M D) : M D := mBind (mTest m) fun b => mPure (.bool (!b))
theorem testV {W : Wd} {Hs H : Hp} {σ : L2.St} {δ : Env} {β : Type} {f : Bool → M β} {QQ : β → Hp → Hp → Env → Prop} {K : Frag} {R : V → Hp → Prop} (hp : W.pn.map (·.1) = ps) (re : RE K W Hs H σ δ) (po : Post K E W Hs σ (mBind (mTest m) f δ) QQ)
    (k : ∀ b Hs1 H1 δ1, Ex Hs Hs1 → RE K W Hs1 H1 σ δ1 → Post K E W Hs1 σ (f b δ1) QQ → R (.bl b) H1) : tOf K E ps m σ H R := by
  have po' : Post K E W Hs σ (mBind m (fun d => mBind (mOpt (toB d)) f) δ) QQ := by
    have e : mBind (mTest m) f δ = mBind m (fun d => mBind (mOpt (toB d)) f) δ := by
      unfold mTest mBind
      cases m δ <;> rfl
    rw [← e]; exact po
  refine tOf.step hp re po' fun x d Hs1 H1 δ1 e1 re1 r1 po1 => ?_
  cases r1 with
  | bl b => exact k b Hs1 H1 δ1 e1 re1 po1
  | _ => exact po1.elim
theorem je_and (h : PE X a (tOf X.K E ps ma)) (h2 : PE X (.BoolOp .And (b :: rest) pos) (tOf X.K E ps mb)) : PE X (.BoolOp .And (a :: b :: rest) pos) (tOf X.K E ps (mAndV ma mb)) :=
  pe_imp (pe_and h h2) fun σ H Q ⟨W, Hs, δ, hp, re, po⟩ => testV hp re po fun b Hs1 H1 δ1 e1 re1 po1 => ⟨b, rfl, by
    cases b with
    | true => exact Cf.last hp re1 po1
    | false => exact Post.of po1 re1 _ (.bl false)⟩
theorem je_one {op : BoolOp} (h : PE X a (tOf X.K E ps ma)) : PE X (.BoolOp op [a] pos) (tOf X.K E ps ma) := pe_one h
theorem je_not (h : PE X a (tOf X.K E ps ma)) : PE X (.UnaryOp .Not a pos) (tOf X.K E ps (mNotV ma)) :=
  pe_imp (pe_not h) fun σ H Q ⟨W, Hs, δ, hp, re, po⟩ => testV hp re po fun b Hs1 H1 δ1 e1 re1 po1 => ⟨b, rfl, Post.of po1 re1 _ (.bl _)⟩
def mIfE (t : M Bool) (m1 m2 : M D) : M D := mBind t fun b => if b then m1 else m2
theorem je_if {c : Expr} (hc : PT X c (tOfT X.K E ps t1)) (h : PE X a (tOf X.K E ps ma)) (h2 : PE X b (tOf X.K E ps mb)) : PE X (.IfExp c a b pos) (tOf X.K E ps (mIfE t1 ma mb)) :=
  pe_imp (pe_ifExp hc h h2) fun σ H Q ⟨W, Hs, δ, hp, re, po⟩ => tOfT.step hp re po fun b Hs1 H1 δ1 e1 re1 po1 => by
    cases b with
    | true => exact Cf.last hp re1 po1
    | false => exact Cf.last hp re1 po1
/-- -n -/
def dNeg : D → Option D
  | .int i => some (.int (-i))
  | _ => none
def mNeg (m : M D) : M D := mBind m fun d => mOpt (dNeg d)
theorem je_neg (h : PE X a (tOf X.K E ps ma)) : PE X (.UnaryOp .USub a pos) (tOf X.K E ps (mNeg ma)) :=
  pe_imp (pe_un un_neg h) fun σ H Q ⟨W, Hs, δ, hp, re, po⟩ => tOf.step hp re po fun x d Hs1 H1 δ1 e1 re1 r1 po1 => by
    obtain ⟨c, hc, po3⟩ := Post.opt po1
    cases r1 <;> simp [dNeg] at hc
    subst hc
    exact ⟨_, rfl, Post.of po3 re1 _ (.int _)⟩
variable {c : Expr} {mc : M D}
theorem je_chain {op op' : CmpOp} {r r' : R2} {g g' : D → D → Option D} (ho : OpR X (compareOp op) r) (ho' : OpR X (compareOp op') r') (hr : OpB X.K r g) (hr' : OpS X.K r' g') (ha : PE X a (tOf X.K E ps ma)) (hb : PE X b (tOf X.K E ps mb)) (hc : PE X c (tOf X.K E ps mc))
    (hm : lastMarks [op, op'] [b, c] = false := by with_unfolding_all rfl) : PE X (.Compare a [op, op'] [b, c] pos) (tOf X.K E ps (mChain g g' ma mb mc)) :=
  pe_imp (pe_chain ho ho' ha hb hc hm) fun _ _ _ h => chainS hr hr' h
end
end Dn
namespace Dn
open PySem PySem.Spec PyProof.Rows L2
inductive AM where
  | e (m : M D)
  | o (i : Nat)
def mOwn (i : Nat) : M (List D) := fun δ => match δ[i]? with
  | some (.ow xs) => .ok xs δ
  | _ => .bad
def evA : List AM → M (List Ag)
  | [] => mPure []
  | .e m :: as => mBind m fun d => mBind (evA as) fun gs => mPure (.sh d :: gs)
  | .o i :: as => mBind (mOwn i) fun _ => mBind (evA as) fun gs => mPure (.ow i :: gs)
def shs : List Ag → Option (List D)
  | [] => some []
  | .sh d :: gs => (shs gs).map (d :: ·)
  | .ow _ :: _ => none
section
variable {K : Frag} {W : Wd} {Hs H H' : Hp} {σ : L2.St} {δ : Env} {E : XQ} {ps : List Nat}
theorem shs_rps : ∀ {vs : List V} {gs : List Ag} {ds : List D}, AgR K Hs σ vs gs → shs gs = some ds → Rps K Hs vs ds
  | [], [], ds, _, h => by obtain rfl := Option.some.inj h; exact .nil
  | [], _ :: _, _, h, _ => h.elim
  | _ :: _, [], _, h, _ => h.elim
  | v :: vs, .sh d :: gs, ds, h, q => by
    unfold shs at q
    cases z : shs gs with
    | none => rw [z] at q; simp at q
    | some es =>
      rw [z] at q
      have e : d :: es = ds := by simpa using q
      subst e
      exact .cons h.1 (shs_rps h.2 z)
  | _ :: _, .ow _ :: _, _, _, q => by simp [shs] at q
/-- new things that no name reaches -/
theorem RE.newH (r : RE K W Hs H σ δ) (e : Ex H H') : RE K W Hs H' σ δ :=
  r.grow ⟨Ex.refl _, e, r.ex.trans e, fun _ _ => rfl⟩
/-- a fresh list becomes shared data -/
theorem RE.freeze {a : Addr} {xs : List D} (r : RE K W Hs H σ δ) (f : FrO K W Hs H σ δ a xs) : ∃ Hs', Ex Hs Hs' ∧ RE K W Hs' H σ δ ∧ Rp K Hs' (.ref a) (.list xs) := by
  obtain ⟨vs, h1, h2⟩ := f.at_
  have e : Ex Hs (upd Hs a (.lst vs)) := ex_new f.hs
  refine ⟨upd Hs a (.lst vs), e, ?_, .lst (SqL.of upd_same) (h2.ex e)⟩
  exact {
    ex := fun b o q => by
      by_cases hb : b = a
      · subst hb; rw [upd_same] at q; cases q; exact h1
      · rw [upd_ne hb] at q; exact r.ex b o q
    fg := fun b o q => by
      have hb : b ≠ a := fun z => by rw [z, f.g] at q; cases q
      rw [upd_ne hb]; exact r.fg b o q
    len := r.len
    sh := fun i d q => by
      obtain ⟨v, q1, q2⟩ := r.sh i d q
      exact ⟨v, q1, q2.ex e⟩
    ow := fun i s q w => by
      obtain ⟨b, o, q1, q2, q3, q4, q5⟩ := r.ow i s q w
      have hb : b ≠ a := fun z => f.ne i s q w (z ▸ q1)
      exact ⟨b, o, q1, q2, q3.ex e, by rw [upd_ne hb]; exact q4, q5⟩
    ap := r.ap
    pin := r.pin }
end
section
variable {X : Cx} {E : XQ} {ps : List Nat} {a b e o : Expr} {es : List Expr} {pos : Pos} {ma mb m : M D} {as : List AM}
theorem ja_nil : PA X [] (tOfA X.K E ps (evA [])) := pa_imp pa_nil fun σ H Q ⟨W, Hs, δ, hp, re, po⟩ => Post.of po re [] trivial
def CallS (K : Frag) (r : List V → Hp → VK → Prop) (g : List D → Option D) : Prop := ∀ Hs H vs ds c (Q : VK), Ex Hs H → Rps K Hs vs ds → g ds = some c → (∀ v Hs' H', Gr Hs H Hs' H' → Rp K Hs' v c → Q v H') → r vs H Q
def mCallB (g : List D → Option D) (as : List AM) : M D := mBind (evA as) fun gs => mOpt ((shs gs).bind g)
theorem callS {r : List V → Hp → VK → Prop} {g : List D → Option D} (hr : CallS X.K r g) {σ : L2.St} {H : Hp} {Q : VK} (h : tOf X.K E ps (mCallB g as) σ H Q) : tCB r (tOfA X.K E ps (evA as)) σ H Q := by
  obtain ⟨W, Hs, δ, hp, re, po⟩ := h
  refine tOfA.step hp re po fun vs gs Hs1 H1 δ1 e1 re1 r1 po1 => ?_
  obtain ⟨c, hc, po2⟩ := Post.opt po1
  obtain ⟨ds, h1, h2⟩ := Option.bind_eq_some_iff.mp hc
  exact hr Hs1 H1 vs ds c Q re1.ex (shs_rps r1 h1) h2 fun v Hs' H' g rv => Post.grow po2 re1 g v rv
theorem je_callB {x : Str} {p : Pos} {id : String} {r : List V → Hp → VK → Prop} {g : List D → Option D} (hc : CallR X (.builtin id) r) (hr : CallS X.K r g) (hg : Gl X x) (hm : X.mg x = none) (hv : bootBuiltins x = some (.builtin id)) (ha : PA X (e :: es) (tOfA X.K E ps (evA as))) (hn : x ≠ "__name__" := by decide) (hdb : (x == ("__debug__" : Str)) = false := by decide)
    (he : starEach (e :: es) X.env = (false, eval e X.env) :: starEach es X.env := by rfl) (hpl : (backTo pos (starEach es X.env)).any (·.1) = false := by rfl) : PE X (.Call (.Name x p) (e :: es) [] pos) (tOf X.K E ps (mCallB g as)) :=
  pe_imp (pe_callB hc hg hm hv ha hn hdb he hpl) fun _ _ _ h => callS hr h
theorem je_callTy {x : Str} {p : Pos} {T : String} {r : List V → Hp → VK → Prop} {g : List D → Option D} (hc : CallR X (.type T) r) (hr : CallS X.K r g) (hg : Gl X x) (hm : X.mg x = none) (hv : bootBuiltins x = some (.type T)) (ha : PA X (e :: es) (tOfA X.K E ps (evA as))) (hn : x ≠ "__name__" := by decide) (hdb : (x == ("__debug__" : Str)) = false := by decide)
    (he : starEach (e :: es) X.env = (false, eval e X.env) :: starEach es X.env := by rfl) (hpl : (backTo pos (starEach es X.env)).any (·.1) = false := by rfl) : PE X (.Call (.Name x p) (e :: es) [] pos) (tOf X.K E ps (mCallB g as)) :=
  pe_imp (pe_callTy hc hg hm hv ha hn hdb he hpl) fun _ _ _ h => callS hr h
theorem ex_upd {Hs H : Hp} {q : Addr} {u : HO} (e : Ex Hs H) (h : H q = some u) : Ex (upd Hs q u) H := fun c w z => by
  by_cases hc : c = q
  · subst hc; rw [upd_same] at z; cases z; exact h
  · rw [upd_ne hc] at z; exact e c w z
/-- own things lent for a while: what is handed back is flat, so nothing of them stays -/
theorem lent {K : Frag} {W : Wd} {Hs H : Hp} {σ : L2.St} {δ : Env} {i : Nat} {xs : List D} (re : RE K W Hs H σ δ) (hx : δ[i]? = some (Sl.ow xs)) :
    ∃ (q : Addr) (Hb : Hp), σ[i]? = some (some (V.ref q)) ∧ Ex Hs Hb ∧ Ex Hb H ∧ Rp K Hb (.ref q) (.list xs) ∧ H q ≠ none ∧ tyV K "list" (.ref q) H ∧ ∃ vs, H q = some (.lst vs) ∧ Rps K Hs vs xs := by
  obtain ⟨q, u, h1, h2, h3, h4, h5⟩ := re.ow i _ hx rfl
  cases u with
  | lst vs =>
    have e : Ex Hs (upd Hs q (.lst vs)) := ex_new h4
    exact ⟨q, upd Hs q (.lst vs), h1, e, ex_upd re.ex h2, .lst (SqL.of upd_same) (Rps.ex e h3), by rw [h2]; simp, .inl ⟨rfl, vs, .inl (.inl h2)⟩, vs, h2, h3⟩
  | _ => exact h3.elim
def bLen : List D → Option D
  | [.str z] => if z.length ≤ sizeLine then some (.int z.length) else none
  | [.list xs] => some (.int xs.length)
  | [.tuple xs] => some (.int xs.length)
  | _ => none
def rLenA (K : Frag) : List V → Hp → VK → Prop := fun xs H Q => (∃ p ys, xs = [.ref p] ∧ (SqL K H p ys ∨ SqT K H p ys) ∧ Q (.int ys.length) H) ∨ ∃ z, xs = [.str z] ∧ z.length ≤ sizeLine ∧ Q (.int z.length) H
theorem call_lenA : CallR X (.builtin "len") (rLenA X.K) := call_len_seq.or call_len_str
theorem cs_len {K : Frag} : CallS K (rLenA K) bLen := fun Hs H vs ds c Q ex t hg k => by
  cases t with
  | nil => simp [bLen] at hg
  | cons r t =>
    cases t with
    | cons _ _ => cases r <;> simp [bLen] at hg
    | nil =>
      cases r with
      | str z =>
        simp only [bLen, Option.ite_none_right_eq_some, Option.some.injEq] at hg
        obtain ⟨hl, hg⟩ := hg
        subst hg
        exact .inr ⟨z, rfl, hl, k _ Hs H (.refl ex) (.int _)⟩
      | lst h t =>
        obtain rfl := Option.some.inj hg
        exact .inl ⟨_, _, rfl, .inl (sqL_ex ex h), by rw [t.length]; exact k _ Hs H (.refl ex) (.int _)⟩
      | tup h t =>
        obtain rfl := Option.some.inj hg
        exact .inl ⟨_, _, rfl, .inr (sqT_ex ex h), by rw [t.length]; exact k _ Hs H (.refl ex) (.int _)⟩
      | _ => simp [bLen] at hg
def bInt : List D → Option D
  | [.int i] => some (.int i)
  | [.bool b] => some (.int (if b then 1 else 0))
  | _ => none
def bII (f : Int → Int → Int) : List D → Option D
  | [.int i, .int j] => some (.int (f i j))
  | _ => none
theorem cs_II {K : Frag} {f : Int → Int → Int} : CallS K (fun xs H Q => ∃ i j, xs = [.int i, .int j] ∧ Q (.int (f i j)) H) (bII f) := fun Hs H vs ds c Q ex t hg k => by
  cases t with
  | nil => simp [bII] at hg
  | cons r t =>
    cases t with
    | nil => cases r <;> simp [bII] at hg
    | cons r' t =>
      cases t with
      | cons _ _ => cases r <;> cases r' <;> simp [bII] at hg
      | nil =>
        cases r <;> cases r' <;> simp [bII] at hg
        subst hg
        exact ⟨_, _, rfl, k _ Hs H (.refl ex) (.int _)⟩
def bTuple : List D → Option D
  | [.list xs] => some (.tuple xs)
  | [.tuple xs] => some (.tuple xs)
  | _ => none
theorem cs_tuple {K : Frag} : CallS K (fun xs H Q => ∃ p ys, xs = [.ref p] ∧ ((SqL K H p ys ∧ ∀ l, H l = none → Q (.ref l) (upd H l (.tup ys))) ∨ (SqT K H p ys ∧ Q (.ref p) H))) bTuple := fun Hs H vs ds c Q ex t hg k => by
  cases t with
  | nil => simp [bTuple] at hg
  | cons r t =>
    cases t with
    | cons _ _ => cases r <;> simp [bTuple] at hg
    | nil =>
      cases r with
      | lst h t =>
        obtain rfl := Option.some.inj hg
        exact ⟨_, _, rfl, .inl ⟨sqL_ex ex h, fun p hp => k _ _ _ (Gr.new ex hp) (.tup (StT.of upd_same) (t.ex (Gr.new ex hp).s))⟩⟩
      | tup h t =>
        obtain rfl := Option.some.inj hg
        exact ⟨_, _, rfl, .inr ⟨sqT_ex ex h, k _ Hs H (.refl ex) (.tup h t)⟩⟩
      | _ => simp [bTuple] at hg
def bList : List D → Option D
  | [.list xs] => some (.list xs)
  | [.tuple xs] => some (.list xs)
  | _ => none
def toSs : List D → Option (List Str)
  | [] => some []
  | .str b :: r => (toSs r).map (b :: ·)
  | _ :: _ => none
theorem toSs_eq : ∀ {ds : List D} {bs : List Str}, toSs ds = some bs → ds = bs.map PyData.str
  | [], bs, h => by obtain rfl := Option.some.inj h; rfl
  | d :: r, bs, h => by
    cases d with
    | str b =>
      unfold toSs at h
      cases z : toSs r with
      | none => rw [z] at h; simp at h
      | some cs =>
        rw [z] at h
        have e : b :: cs = bs := by simpa using h
        subst e
        rw [List.map_cons, toSs_eq z]
    | _ => simp [toSs] at h
def tyD : D → String
  | .none => "NoneType"
  | .bool _ => "bool"
  | .int _ => "int"
  | .str _ => "str"
  | .list _ => "list"
  | .tuple _ => "tuple"
  | .dict _ => "dict"
theorem ty_of {K : Frag} {Hs H : Hp} {v : V} {d : D} (ex : Ex Hs H) (r : Rp K Hs v d) : TyX K H v (.type (tyD d)) := by
  cases r with
  | non => exact .base .non
  | bl b => exact .base (.bl b)
  | int i => exact .base (.int i)
  | str x => exact .base (.str x)
  | lst h t =>
    rcases sqL_ex ex h with (h | ⟨o, h⟩) | ⟨o, its, n, h1, h2, _⟩
    · exact .base (.lst h)
    · exact .base (.frz h)
    · exact .kList h1 h2
  | tup h t =>
    rcases sqT_ex ex h with (h | ⟨o, h⟩) | ⟨o, its, n, h1, h2, _⟩
    · exact .base (.tup h)
    · exact .fTuple h
    · exact .kTuple h1 h2
def mIsi (T : String) (m : M D) : M D := mBind m fun d => mOpt ((kitB (tyD d) T).map PyData.bool)
theorem je_isi {T : Str} {T' : String} {p p' : Pos} (h : PE X e (tOf X.K E ps m)) (hg : Gl X "isinstance") (hm : X.mg "isinstance" = none) (hgT : Gl X T) (hmT : X.mg T = none) (hvT : bootBuiltins T = some (.type T')) (hnT : T ≠ "__name__" := by decide) (hdT : (T == ("__debug__" : Str)) = false := by decide)
    (he : starEach (e :: [.Name T p']) X.env = (false, eval e X.env) :: starEach [.Name T p'] X.env := by rfl) (he2 : starEach [.Name T p'] X.env = (false, eval (.Name T p') X.env) :: starEach [] X.env := by rfl) (hpl : (backTo pos (starEach [.Name T p'] X.env)).any (·.1) = false := by rfl) :
    PE X (.Call (.Name "isinstance" p) [e, .Name T p'] [] pos) (tOf X.K E ps (mIsi T' m)) :=
  pe_imp (pe_callB call_isi hg hm (by decide +kernel) (pa_cons h (pa_cons (pe_bltn (v := .ty T') hgT hmT hvT rfl hnT hdT) pa_nil he2) he) (by decide) (by decide) he hpl) fun σ H Q ⟨W, Hs, δ, hp, re, po⟩ => by
    refine tOf.step hp re po fun v d Hs1 H1 δ1 e1 re1 r1 po1 => ?_
    obtain ⟨c, hc, po2⟩ := Post.opt po1
    obtain ⟨b, hb, hc⟩ := Option.map_eq_some_iff.mp hc
    subst hc
    exact ⟨v, .ty T', _, _, b, rfl, .ty T', ty_of re1.ex r1, kit_ty hb, Post.of po2 re1 _ (.bl b)⟩
def toS : D → Option Str
  | .str z => some z
  | _ => none
def mM1 (g : Str → List D → Option D) (mo m : M D) : M D := mBind mo fun d => mBind (mOpt (toS d)) fun z => mBind m fun e => mOpt (g z [e])
theorem optB {K : Frag} {W : Wd} {Hs : Hp} {σ : L2.St} {δ : Env} {α β : Type} {oa : Option α} {f : α → M β} {QQ : β → Hp → Hp → Env → Prop} (po : Post K E W Hs σ (mBind (mOpt oa) f δ) QQ) : ∃ a, oa = some a ∧ Post K E W Hs σ (f a δ) QQ := by
  cases oa with
  | none => exact po.elim
  | some a => exact ⟨a, rfl, po⟩
def mShs (as : List AM) : M (List D) := mBind (evA as) fun gs => mOpt ((shs gs).filter fun ds => decide (ds.length ≤ sizeLine))
def mTup (as : List AM) : M D := mBind (mShs as) fun ds => mPure (.tuple ds)
def mLst (as : List AM) : M D := mBind (mShs as) fun ds => mPure (.list ds)
theorem mShs_step {W : Wd} {Hs H : Hp} {σ : L2.St} {δ : Env} {β : Type} {f : List D → M β} {QQ : β → Hp → Hp → Env → Prop} {K : Frag} {R : List V → Hp → Prop} (hp : W.pn.map (·.1) = ps) (re : RE K W Hs H σ δ) (po : Post K E W Hs σ (mBind (mShs as) f δ) QQ)
    (k : ∀ vs ds Hs1 H1 δ1, Ex Hs Hs1 → RE K W Hs1 H1 σ δ1 → Rps K Hs1 vs ds → vs.length ≤ sizeLine → Post K E W Hs1 σ (f ds δ1) QQ → R vs H1) : tOfA K E ps (evA as) σ H R := by
  have po' : Post K E W Hs σ (mBind (evA as) (fun gs => mBind (mOpt ((shs gs).filter fun ds => decide (ds.length ≤ sizeLine))) f) δ) QQ := by
    have e : mBind (mShs as) f δ = mBind (evA as) (fun gs => mBind (mOpt ((shs gs).filter fun ds => decide (ds.length ≤ sizeLine))) f) δ := by
      unfold mShs mBind
      cases evA as δ <;> rfl
    rw [← e]; exact po
  refine tOfA.step hp re po' fun vs gs Hs1 H1 δ1 e1 re1 r1 po1 => ?_
  obtain ⟨ds, hc, po2⟩ := optB po1
  obtain ⟨h1, h2⟩ := Option.filter_eq_some_iff.mp hc
  have t := shs_rps r1 h1
  exact k vs ds Hs1 H1 δ1 e1 re1 t (by rw [t.length]; exact of_decide_eq_true h2) po2
theorem je_tup {x1} (h : PA X es (tOfA X.K E ps (evA as))) : PE X (.Tuple es x1 pos) (tOf X.K E ps (mTup as)) :=
  pe_imp (pe_tup h) fun σ H Q ⟨W, Hs, δ, hp, re, po⟩ => mShs_step hp re po fun vs ds Hs1 H1 δ1 e1 re1 t hl po1 => ⟨hl, fun p hpn =>
    Post.grow po1 re1 (Gr.new re1.ex hpn) _ (.tup (StT.of upd_same) (t.ex (Gr.new re1.ex hpn).s))⟩
theorem je_lst (h : PA X es (tOfA X.K E ps (evA as))) : PE X (.List es pos) (tOf X.K E ps (mLst as)) :=
  pe_imp (pe_lst h) fun σ H Q ⟨W, Hs, δ, hp, re, po⟩ => mShs_step hp re po fun vs ds Hs1 H1 δ1 e1 re1 t hl po1 => ⟨hl, fun p hpn =>
    Post.grow po1 re1 (Gr.new re1.ex hpn) _ (.lst (SqL.of upd_same) (t.ex (Gr.new re1.ex hpn).s))⟩
theorem jo_lst (h : PA X es (tOfA X.K E ps (evA as))) : PE X (.List es pos) (tOfO X.K E ps (mShs as)) :=
  pe_imp (pe_lst h) fun σ H Q ⟨W, Hs, δ, hp, re, po⟩ => by
    have po' : Post X.K E W Hs σ (mBind (mShs as) mPure δ) fun xs Hs' H' δ' => ∀ a, FrO X.K W Hs' H' σ δ' a xs → Q (.ref a) H' := by
      have e : mBind (mShs as) mPure δ = mShs as δ := by unfold mBind mPure; cases mShs as δ <;> rfl
      rw [e]; exact po
    refine mShs_step hp re po' fun vs ds Hs1 H1 δ1 e1 re1 t hl po1 => ⟨hl, fun p hpn => ?_⟩
    have en : Ex H1 (upd H1 p (.lst vs)) := ex_new hpn
    refine Post.of po1 (re1.newH en) p ⟨⟨vs, upd_same, t⟩, ex_none re1.ex hpn, ?_, fun i s q w z => ?_⟩
    · cases q : W.G p with
      | none => rfl
      | some u => have := (re1.fg p u q).1; rw [hpn] at this; cases this
    · obtain ⟨a, u, h1, h2, _⟩ := re1.ow i s q w
      rw [h1] at z
      cases z
      rw [hpn] at h2; cases h2
end
end Dn
namespace Dn
open PySem PySem.Spec PyProof.Rows L2
inductive Fl where
  | nx
  | rt (s : Sl)
  | bk
  | ct
def FlOk (K : Frag) (W : Wd) (B : Ends) (fl : Fl) (σ : L2.St) (Hs H : Hp) (δ : Env) : Prop := match fl with
  | .nx => B.nx σ H
  | .bk => B.bk σ H
  | .ct => B.ct σ H
  | .rt (.sh d) => ∀ v, Rp K Hs v d → B.rt v H
  | .rt (.ow xs) => ∀ a, FrO K W Hs H σ δ a xs → B.rt (.ref a) H
  | .rt .no => False
def PostS (K : Frag) (E : XQ) (W : Wd) (Hs : Hp) (r : Res Fl) (B : Ends) (b : Wd → Fl → L2.St → Hp → Hp → Env → Prop) : Prop := match r with
  | .ok fl δ' => ∀ σ' Hs' H', Ex Hs Hs' → RE K W Hs' H' σ' δ' → b W fl σ' Hs' H' δ'
  | .exc x δ' => ∀ σ' Hs' H', Ex Hs Hs' → RE K W Hs' H' σ' δ' → E x σ' H'
  | .bad => False
abbrev PostF (K : Frag) (E : XQ) (W : Wd) (Hs : Hp) (r : Res Fl) (B : Ends) : Prop := PostS K E W Hs r B fun W fl σ' Hs' H' δ' => FlOk K W B fl σ' Hs' H' δ'
theorem PostS.ex {K : Frag} {E : XQ} {W : Wd} {Hs Hs1 : Hp} {r : Res Fl} {B : Ends} {b : Wd → Fl → L2.St → Hp → Hp → Env → Prop} (h : PostS K E W Hs r B b) (e : Ex Hs Hs1) : PostS K E W Hs1 r B b := by
  cases r with
  | ok a δ' => exact fun σ' Hs' H' e' r => h σ' Hs' H' (e.trans e') r
  | exc x δ' => exact fun σ' Hs' H' e' r => h σ' Hs' H' (e.trans e') r
  | bad => exact h
def tOfS (K : Frag) (E : XQ) (ps : List Nat) (m : M Fl) : TS := fun B σ H => ∃ (W : Wd) (Hs : Hp) (δ : Env), W.pn.map (·.1) = ps ∧ RE K W Hs H σ δ ∧ PostF K E W Hs (m δ) B
section
variable {K : Frag} {E : XQ} {ps : List Nat} {W : Wd} {Hs H : Hp} {σ : L2.St} {δ : Env} {B : Ends}
theorem Cf.stepS {α : Type} {ma : M α} {f : α → M Fl} {R : Wd → α → Hp → Hp → Env → Prop} (hp : W.pn.map (·.1) = ps) (re : RE K W Hs H σ δ) (po : PostF K E W Hs (mBind ma f δ) B)
    (k : ∀ a Hs1 H1 δ1, Ex Hs Hs1 → RE K W Hs1 H1 σ δ1 → PostF K E W Hs1 (f a δ1) B → R W a Hs1 H1 δ1) : Cf K E ps ma σ H R := by
  refine ⟨W, Hs, δ, hp, re, ?_⟩
  unfold mBind at po
  cases h : ma δ with
  | ok a δ1 =>
    rw [h] at po
    exact fun Hs' H' e r => k a Hs' H' δ1 e r (PostS.ex po e)
  | exc x δ1 =>
    rw [h] at po
    exact fun Hs' H' e r => po σ Hs' H' e r
  | bad =>
    rw [h] at po
    exact po
theorem tOf.stepS {ma : M D} {f : D → M Fl} {R : V → Hp → Prop} (hp : W.pn.map (·.1) = ps) (re : RE K W Hs H σ δ) (po : PostF K E W Hs (mBind ma f δ) B)
    (k : ∀ v d Hs1 H1 δ1, Ex Hs Hs1 → RE K W Hs1 H1 σ δ1 → Rp K Hs1 v d → PostF K E W Hs1 (f d δ1) B → R v H1) : tOf K E ps ma σ H R :=
  Cf.stepS hp re po fun d Hs1 H1 δ1 e r p v rv => k v d Hs1 H1 δ1 e r rv p
theorem tOfO.stepS {ma : M (List D)} {f : List D → M Fl} {R : V → Hp → Prop} (hp : W.pn.map (·.1) = ps) (re : RE K W Hs H σ δ) (po : PostF K E W Hs (mBind ma f δ) B)
    (k : ∀ a xs Hs1 H1 δ1, Ex Hs Hs1 → RE K W Hs1 H1 σ δ1 → FrO K W Hs1 H1 σ δ1 a xs → PostF K E W Hs1 (f xs δ1) B → R (.ref a) H1) : tOfO K E ps ma σ H R :=
  Cf.stepS hp re po fun xs Hs1 H1 δ1 e r p a fa => k a xs Hs1 H1 δ1 e r fa p
theorem PostS.of {fl : Fl} {b : Wd → Fl → L2.St → Hp → Hp → Env → Prop} (po : PostS K E W Hs (.ok fl δ) B b) (re : RE K W Hs H σ δ) : b W fl σ Hs H δ := po σ Hs H (Ex.refl _) re
theorem optF {α : Type} {oa : Option α} {f : α → M Fl} (po : PostF K E W Hs (mBind (mOpt oa) f δ) B) : ∃ a, oa = some a ∧ PostF K E W Hs (f a δ) B := by
  cases oa with
  | none => exact po.elim
  | some a => exact ⟨a, rfl, po⟩
theorem mOwn_postF {i : Nat} {f : List D → M Fl} (po : PostF K E W Hs (mBind (mOwn i) f δ) B) : ∃ xs, δ[i]? = some (Sl.ow xs) ∧ PostF K E W Hs (f xs δ) B := by
  unfold mBind mOwn at po
  split at po
  · rename_i a e' h
    split at h
    · rename_i xs hx
      cases h
      exact ⟨_, hx, po⟩
    · cases h
  · rename_i x e' h
    split at h <;> cases h
  · exact po.elim
end
section
variable {X : Cx} {E : XQ} {ps : List Nat} {a b e : Expr} {st : Stmt} {rest : List Stmt} {pos : Pos} {m : M D} {mo : M (List D)} {m1 m2 : M Fl}
def mSeq (m1 m2 : M Fl) : M Fl := fun δ => match m1 δ with
  | .ok .nx δ' => m2 δ'
  | r => r
def mNx : M Fl := mPure .nx
theorem jss_nil : PSs X [] (tOfS X.K E ps mNx) := pss_imp pss_nil fun B σ H ⟨W, Hs, δ, hp, re, po⟩ => PostS.of po re
theorem jss_one (h : PS X st (tOfS X.K E ps m1)) : PSs X [st] (tOfS X.K E ps m1) := pss_one h
theorem jss_cons (h : PS X st (tOfS X.K E ps m1)) (t : PSs X rest (tOfS X.K E ps m2)) : PSs X (st :: rest) (tOfS X.K E ps (mSeq m1 m2)) :=
  pss_imp (pss_cons h t) fun B σ H ⟨W, Hs, δ, hp, re, po⟩ => by
    refine ⟨W, Hs, δ, hp, re, ?_⟩
    unfold mSeq at po
    cases q : m1 δ with
    | ok fl δ1 =>
      rw [q] at po
      cases fl with
      | nx => exact fun σ' Hs' H' e r => ⟨W, Hs', δ1, hp, r, PostS.ex po e⟩
      | rt s => cases s <;> exact po
      | bk => exact po
      | ct => exact po
    | exc x δ1 =>
      rw [q] at po
      exact po
    | bad =>
      rw [q] at po
      exact po
def mExpr (m : M D) : M Fl := mBind m fun _ => mNx
theorem js_expr (h : PE X e (tOf X.K E ps m)) (hs : swapsWith e none pos.line X.env = pure false := by rfl) : PS X (.Expr e pos) (tOfS X.K E ps (mExpr m)) :=
  pst_imp (ps_expr h hs) fun B σ H ⟨W, Hs, δ, hp, re, po⟩ => tOf.stepS hp re po fun v d Hs1 H1 δ1 e1 re1 r1 po1 => PostS.of po1 re1
def mRet (m : M D) : M Fl := mBind m fun d => mPure (.rt (.sh d))
theorem js_ret (h : PE X e (tOf X.K E ps m)) : PS X (.Return (some e) pos) (tOfS X.K E ps (mRet m)) :=
  pst_imp (ps_ret h) fun B σ H ⟨W, Hs, δ, hp, re, po⟩ => tOf.stepS hp re po fun v d Hs1 H1 δ1 e1 re1 r1 po1 => PostS.of po1 re1 v r1
def mIfS (t : M Bool) (m1 m2 : M Fl) : M Fl := mBind t fun b => if b then m1 else m2
theorem js_if {c : Expr} {sa sb : List Stmt} {t : M Bool} (hc : PT X c (tOfT X.K E ps t)) (h1 : PSs X sa (tOfS X.K E ps m1)) (h2 : PSs X sb (tOfS X.K E ps m2)) : PS X (.If c sa sb pos) (tOfS X.K E ps (mIfS t m1 m2)) :=
  pst_imp (ps_if hc h1 h2) fun B σ H ⟨W, Hs, δ, hp, re, po⟩ => Cf.stepS hp re po fun b Hs1 H1 δ1 e1 re1 po1 => by
    cases b with
    | true => exact ⟨W, Hs1, δ1, hp, re1, po1⟩
    | false => exact ⟨W, Hs1, δ1, hp, re1, po1⟩
/-- x = e -/
def mSet (i : Nat) (m : M D) : M Fl := mBind m fun d => fun δ => .ok .nx (δ.set i (.sh d))
theorem js_set {i : Nat} {x : Str} {pos' : Pos} (hps : i ∉ ps) (hN : X.N.Nodup) (hi : X.N[i]? = some x) (hx : Loc X.env.scope x) (h : PE X e (tOf X.K E ps m)) (hs : swapsWith e (some (.Name x pos')) pos.line X.env = pure false := by rfl) (hf : X.fn x = true ∨ X.env.scope.names.lookup x = some .local := by first | exact .inl rfl | exact .inr rfl | assumption) :
    PS X (.Assign [.Name x pos'] e pos) (tOfS X.K E ps (mSet i m)) :=
  pst_imp (ps_set hN hi hx h hs hf) fun B σ H ⟨W, Hs, δ, hp, re, po⟩ => tOf.stepS hp re po fun v d Hs1 H1 δ1 e1 re1 r1 po1 => PostS.of po1 (re1.setSh r1 (by rw [hp]; exact hps))
/-- x[i] = e, x a list of one's own -/
def mSetIx (k : Nat) (mi me : M D) : M Fl := mBind me fun d => mBind (mOwn k) fun _ => mBind mi fun e => mBind (mOwn k) fun xs => mBind (mOpt (toI e)) fun n => mBind (mOpt (n.bind fun n => ixN xs.length n)) fun j => fun δ => .ok .nx (δ.set k (.ow (xs.set j d)))
theorem js_setIx {k : Nat} {x : Str} {p p' : Pos} {i v : Expr} {mi me : M D} (hN : X.N[k]? = some x) (hv : Vis X.env.scope x) (he : PE X v (tOf X.K E ps me)) (hi : PE X i (tOf X.K E ps mi)) (hd : (x == ("__debug__" : Str)) = false := by decide) (hcd : (x == ("__classdict__" : Str)) = false := by decide)
    (ha : ∀ v, assign (.Subscript (.Name x p) i p') X.env v = (do
      let ov ← holding [v] (eval (.Name x p) X.env)
      let iv ← holding [v, ov] (eval i X.env)
      standAt p'
      holding [v, ov, iv] (setItem ov iv v)
      release [v, ov, iv] []) := by intro _; rfl)
    (hs : swapsWithSole [.Subscript (.Name x p) i p'] v pos.line X.env = pure false := by rfl) (hw : swappedStores [.Subscript (.Name x p) i p'] v X.env = pure none := by rfl)
    (h1 : (assignEach [.Subscript (.Name x p) i p'] X.env).map (·.2) = [assign (.Subscript (.Name x p) i p') X.env] := by rfl) : PS X (.Assign [.Subscript (.Name x p) i p'] v pos) (tOfS X.K E ps (mSetIx k mi me)) :=
  pst_imp (ps_asg he (pg_sub (pe_var hN hv hd hcd) hi set_list ha) hs hw h1) fun B σ H ⟨W, Hs, δ, hp, re, po⟩ => by
    refine tOf.stepS hp re po fun w d Hs1 H1 δ1 e1 re1 r1 po1 => ?_
    obtain ⟨xs, hx, po2⟩ := mOwn_postF po1
    obtain ⟨q, Hb, g1, _⟩ := lent re1 hx
    refine ⟨_, g1, tOf.stepS hp re1 po2 fun u c Hs2 H2 δ2 e2 re2 r2 po3 => ?_⟩
    obtain ⟨xs', hx', po4⟩ := mOwn_postF po3
    obtain ⟨q', Hb', g1', _, _, _, _, _, vs, g7, g8⟩ := lent re2 hx'
    have eq : q' = q := by rw [g1] at g1'; cases g1'; rfl
    subst eq
    obtain ⟨n, hn, po5⟩ := optF po4
    obtain ⟨j, hj, po6⟩ := optF po5
    cases r2 <;> simp [toI] at hn
    subst hn
    simp only [Option.bind_some] at hj
    refine ⟨q', vs, _, j, rfl, rfl, g7, by rw [g8.length]; exact hj, ?_⟩
    exact PostS.of po6 (re2.write hx' rfl g1 (s := .ow (xs'.set j d)) rfl (Rps.set (r1.ex e2) j g8))
/-- x.append(e) -/
def mApp (k : Nat) (me : M D) : M Fl := mBind (mOwn k) fun _ => mBind me fun d => mBind (mOwn k) fun xs => mBind (mOpt (if xs.length < sizeLine then some () else none)) fun _ => fun δ => .ok .nx (δ.set k (.ow (xs ++ [d])))
theorem js_app {k : Nat} {x : Str} {p apos cpos : Pos} {v : Expr} {me : M D} (hN : X.N[k]? = some x) (hv : Vis X.env.scope x) (he : PE X v (tOf X.K E ps me)) (hd : (x == ("__debug__" : Str)) = false := by decide) (hcd : (x == ("__classdict__" : Str)) = false := by decide)
    {PE0 : PE X (.Call (.Attribute (.Name x p) "append" apos) [v] [] cpos) (tBM X.K "list" rAppend (tVar k) (tCons (tOf X.K E ps me) tNil))}
    (hs : swapsWith (.Call (.Attribute (.Name x p) "append" apos) [v] [] cpos) none pos.line X.env = pure false := by rfl) : PS X (.Expr (.Call (.Attribute (.Name x p) "append" apos) [v] [] cpos) pos) (tOfS X.K E ps (mApp k me)) :=
  pst_imp (ps_expr PE0 hs) fun B σ H ⟨W, Hs, δ, hp, re, po⟩ => by
    obtain ⟨xs, hx, po1⟩ := mOwn_postF po
    obtain ⟨q, Hb, g1, _, _, _, _, g6, _⟩ := lent re hx
    refine ⟨_, g1, g6, tOf.stepS hp re po1 fun w d Hs1 H1 δ1 e1 re1 r1 po2 => ?_⟩
    obtain ⟨xs', hx', po3⟩ := mOwn_postF po2
    obtain ⟨q', Hb', g1', _, _, _, _, _, vs, g7, g8⟩ := lent re1 hx'
    have eq : q' = q := by rw [g1] at g1'; cases g1'; rfl
    subst eq
    obtain ⟨_, hl, po4⟩ := optF po3
    have hlt : xs'.length < sizeLine := by
      by_cases h : xs'.length < sizeLine
      · exact h
      · rw [if_neg h] at hl; cases hl
    refine ⟨q', vs, w, rfl, rfl, g7, by rw [g8.length]; exact hlt, ?_⟩
    exact PostS.of po4 (re1.write hx' rfl g1 (s := .ow (xs' ++ [d])) rfl (g8.snoc r1))
def PostG (r : Res Unit) (Q : Env → Prop) : Prop := match r with
  | .ok _ δ' => Q δ'
  | _ => False
def rBind (r : Res Unit) (f : Env → Res Unit) : Res Unit := match r with
  | .ok _ δ' => f δ'
  | _ => .bad
theorem PostG.bind {r : Res Unit} {f : Env → Res Unit} {Q : Env → Prop} (h : PostG (rBind r f) Q) : PostG r fun δ' => PostG (f δ') Q := by
  cases r with
  | ok a δ => exact h
  | exc x δ => exact h
  | bad => exact h
theorem PostG.imp {r : Res Unit} {Q Q' : Env → Prop} (h : PostG r Q) (k : ∀ δ, Q δ → Q' δ) : PostG r Q' := by
  cases r with
  | ok a δ => exact k δ h
  | exc x δ => exact h
  | bad => exact h
/-- the same but for some slots -/
def Off (gv : List Nat) (σ σ' : L2.St) : Prop := σ'.length = σ.length ∧ ∀ j, j ∉ gv → σ'[j]? = σ[j]?
theorem Off.refl {gv : List Nat} {σ : L2.St} : Off gv σ σ := ⟨rfl, fun _ _ => rfl⟩
theorem Off.trans {gv gw : List Nat} {σ σ1 σ2 : L2.St} (a : Off gv σ σ1) (b : Off gw σ1 σ2) : Off (gv ++ gw) σ σ2 := ⟨b.1.trans a.1, fun j h => by
  rw [List.mem_append, not_or] at h
  rw [b.2 j h.2, a.2 j h.1]⟩
def gOf (K : Frag) (E : XQ) (ps gv : List Nat) (mg : D → M Unit) : TG := fun v σ H Q => ∃ (W : Wd) (Hs : Hp) (δ : Env) (d : D), W.pn.map (·.1) = ps ∧ RE K W Hs H σ δ ∧ Rp K Hs v d ∧
  PostG (mg d δ) fun δ' => ∀ σ' Hs' H', Ex Hs Hs' → RE K W Hs' H' σ' δ' → Off gv σ σ' → Q σ' H'
def gOfs (K : Frag) (E : XQ) (ps gv : List Nat) (mg : List D → M Unit) : TGs := fun vs σ H Q => ∃ (W : Wd) (Hs : Hp) (δ : Env) (ds : List D), W.pn.map (·.1) = ps ∧ RE K W Hs H σ δ ∧ Rps K Hs vs ds ∧
  PostG (mg ds δ) fun δ' => ∀ σ' Hs' H', Ex Hs Hs' → RE K W Hs' H' σ' δ' → Off gv σ σ' → Q σ' H'
theorem pg_imp {tg : Expr} {t t' : TG} (h : PG X tg t) (k : ∀ v σ H Q, t' v σ H Q → t v σ H Q) : PG X tg t' := ⟨fun pins s σ H v u Q I r q => h.run pins s σ H v u Q I r (k v σ H Q q)⟩
theorem pgs_imp {tg : List Expr} {t t' : TGs} (h : PGs X tg t) (k : ∀ v σ H Q, t' v σ H Q → t v σ H Q) : PGs X tg t' := ⟨fun pins s σ H v u Q I r q => h.run pins s σ H v u Q I r (k v σ H Q q)⟩
def mgName (i : Nat) : D → M Unit := fun d δ => .ok () (δ.set i (.sh d))
theorem jg_name {i : Nat} {x : Str} (hps : i ∉ ps) (hN : X.N.Nodup) (hi : X.N[i]? = some x) (hx : Loc X.env.scope x) (hf : X.fn x = true ∨ X.env.scope.names.lookup x = some .local := by first | exact .inl rfl | exact .inr rfl | assumption) : PG X (.Name x pos) (gOf X.K E ps [i] (mgName i)) :=
  pg_imp (pg_name hN hi hx hf) fun v σ H Q ⟨W, Hs, δ, d, hp, re, r, po⟩ => po _ Hs H (Ex.refl _) (re.setSh r (by rw [hp]; exact hps)) ⟨by simp, fun j hj => by rw [List.getElem?_set_ne (fun z => hj (by simp [z]))]⟩
def mgNil : List D → M Unit
  | [] => mPure ()
  | _ :: _ => fun _ => .bad
def mgCons (g : D → M Unit) (gs : List D → M Unit) : List D → M Unit
  | d :: ds => fun δ => rBind (g d δ) (gs ds)
  | [] => fun _ => .bad
theorem jgs_nil : PGs X [] (gOfs X.K E ps [] mgNil) := pgs_imp pgs_nil fun vs σ H Q ⟨W, Hs, δ, ds, hp, re, r, po⟩ => by
  cases r with
  | nil => exact ⟨rfl, po σ Hs H (Ex.refl _) re Off.refl⟩
  | cons _ _ => exact po.elim
theorem jgs_cons {t : Expr} {ts : List Expr} {gv gw : List Nat} {g : D → M Unit} {gs : List D → M Unit} (h1 : PG X t (gOf X.K E ps gv g)) (h2 : PGs X ts (gOfs X.K E ps gw gs)) (hs : (assignEach (t :: ts) X.env).map (·.2) = assign t X.env :: (assignEach ts X.env).map (·.2) := by rfl) : PGs X (t :: ts) (gOfs X.K E ps (gv ++ gw) (mgCons g gs)) :=
  pgs_imp (pgs_cons h1 h2 hs) fun vs σ H Q ⟨W, Hs, δ, ds, hp, re, r, po⟩ => by
    cases r with
    | nil => exact po.elim
    | cons r1 rs =>
      refine ⟨_, _, rfl, W, Hs, δ, _, hp, re, r1, (PostG.bind po).imp fun δ1 po1 => ?_⟩
      exact fun σ' Hs' H' e re' of => ⟨W, Hs', δ1, _, hp, re', rs.ex e, po1.imp fun δ2 k σ2 Hs2 H2 e2 r2 of2 => k σ2 Hs2 H2 (e.trans e2) r2 (of.trans of2)⟩
/-- how many names, at any rate -/
def mgLen (n : Nat) (gs : List D → M Unit) : List D → M Unit := fun ds δ => if ds.length = n then gs ds δ else .bad
def mgTup (n : Nat) (gs : List D → M Unit) : D → M Unit
  | .tuple ds => mgLen n gs ds
  | _ => fun _ => .bad
def mgLst (n : Nat) (gs : List D → M Unit) : D → M Unit
  | .list ds => mgLen n gs ds
  | _ => fun _ => .bad
theorem mgLen_post {n : Nat} {gs : List D → M Unit} {ds : List D} {δ : Env} {Q : Env → Prop} (h : PostG (mgLen n gs ds δ) Q) : ds.length = n ∧ PostG (gs ds δ) Q := by
  unfold mgLen at h
  by_cases hl : ds.length = n
  · rw [if_pos hl] at h; exact ⟨hl, h⟩
  · rw [if_neg hl] at h; exact h.elim
theorem jg_tup {ts : List Expr} {k n : Nat} {gv : List Nat} {gs : List D → M Unit} (hc : X.calm = true) (h : PGs X ts (gOfs X.K E ps gv gs)) (hn : (assignEach ts X.env).length = n := by rfl) (hst : (assignEach ts X.env).findIdx? (·.1) = none := by rfl) : PG X (.Tuple ts k pos) (gOf X.K E ps gv (mgTup n gs)) :=
  pg_imp (pg_tup (n := n) hc h hn hst) fun v σ H Q ⟨W, Hs, δ, d, hp, re, r, po⟩ => by
    cases r with
    | tup h1 t =>
      obtain ⟨hl, po1⟩ := mgLen_post po
      exact ⟨_, _, rfl, sqT_ex re.ex h1, by rw [t.length]; exact hl, W, Hs, δ, _, hp, re, t, po1⟩
    | _ => exact po.elim
theorem jg_lst {ts : List Expr} {k n : Nat} {gv : List Nat} {gs : List D → M Unit} (hc : X.calm = true) (h : PGs X ts (gOfs X.K E ps gv gs)) (hn : (assignEach ts X.env).length = n := by rfl) (hst : (assignEach ts X.env).findIdx? (·.1) = none := by rfl) : PG X (.Tuple ts k pos) (gOf X.K E ps gv (mgLst n gs)) :=
  pg_imp (pg_unl (n := n) hc h hn hst) fun v σ H Q ⟨W, Hs, δ, d, hp, re, r, po⟩ => by
    cases r with
    | lst h1 t =>
      obtain ⟨hl, po1⟩ := mgLen_post po
      exact ⟨_, _, rfl, sqL_ex re.ex h1, by rw [t.length]; exact hl, W, Hs, δ, _, hp, re, t, po1⟩
    | _ => exact po.elim
/-- targets = e -/
def mAsg (g : D → M Unit) (m : M D) : M Fl := mBind m fun d δ => match g d δ with
  | .ok _ δ' => .ok .nx δ'
  | _ => .bad
theorem js_asg {tg : Expr} {gv : List Nat} {g : D → M Unit} (h : PE X e (tOf X.K E ps m)) (hg : PG X tg (gOf X.K E ps gv g)) (hs : swapsWithSole [tg] e pos.line X.env = pure false := by rfl) (hw : swappedStores [tg] e X.env = pure none := by rfl)
    (h1 : (assignEach [tg] X.env).map (·.2) = [assign tg X.env] := by rfl) : PS X (.Assign [tg] e pos) (tOfS X.K E ps (mAsg g m)) :=
  pst_imp (ps_asg h hg hs hw h1) fun B σ H ⟨W, Hs, δ, hp, re, po⟩ => tOf.stepS hp re po fun v d Hs1 H1 δ1 e1 re1 r1 po1 => by
    refine ⟨W, Hs1, δ1, d, hp, re1, r1, ?_⟩
    cases q : g d δ1 with
    | ok u δ2 => rw [q] at po1; exact fun σ' Hs' H' e r _ => po1 σ' Hs' H' e r
    | exc x δ2 => rw [q] at po1; exact po1
    | bad => rw [q] at po1; exact po1
end
end Dn
namespace Dn
open PySem PySem.Spec PyProof.Rows L2
def ItOk (K : Frag) (Hs : Hp) (J : It) (ds : List D) : Prop := ∀ Hs1 H1, Ex Hs Hs1 → Ex Hs1 H1 → ∀ i : Nat,
  (∀ d, ds[i]? = some d → J.go i H1 ∧ ∀ x H2, J.yld i H1 x H2 → ∃ Hs2, Gr Hs1 H1 Hs2 H2 ∧ Rp K Hs2 x d) ∧ (ds[i]? = none → J.stop i H1)
def tOfI (K : Frag) (E : XQ) (ps : List Nat) (m : M (List D)) : TI := fun σ H R => Cf K E ps m σ H fun _ ds Hs' H' _ => ∀ J, ItOk K Hs' J ds → R J H'
theorem pi_imp {X : Cx} {tg e : Expr} {t t' : TI} (h : PI X tg e t) (k : ∀ σ H Q, t' σ H Q → t σ H Q) : PI X tg e t' := ⟨fun pins s σ H Q I q => h.run pins s σ H Q I (k σ H Q q)⟩
def sgnD (z : Str) : List D := z.cps.toList.map fun c => .str ⟨#[c]⟩
def dItems : D → Option (List D)
  | .list xs => some xs
  | .tuple xs => some xs
  | .str z => some (sgnD z)
  | _ => none
section
variable {X : Cx} {E : XQ} {ps : List Nat} {tg e : Expr} {pos : Pos} {m : M D}
/-- a list, a tuple, a text -/
def iAnyR (K : Frag) (tl : TE) : TI := fun σ H R => tl σ H fun x H1 => (∃ a, x = .ref a ∧ (∃ xs, SqL K H1 a xs) ∧ R (Itl K a) H1) ∨ (∃ a, x = .ref a ∧ (∃ xs, SqT K H1 a xs) ∧ R (Itt K a) H1) ∨ ∃ z, x = .str z ∧ R (Its z) H1
theorem pi_anyR {tl : TE} (hl : PE X e tl) : PI X tg e (iAnyR X.K tl) := by
  constructor
  intro pins s σ H R I h
  refine thn (hl.run pins s σ H _ I h) ?_
  rintro v s1 ⟨x, H1, I1, r1, q1⟩
  rcases q1 with ⟨a, hx, ⟨xs, hq⟩, q⟩ | ⟨a, hx, ⟨xs, hq⟩, q⟩ | ⟨z, hx, q⟩
  · subst hx
    obtain rfl : v = Value.ref a := r1
    obtain ⟨its, rv, p, hz⟩ := I1.list hq
    exact wpAny_pyIter_list p.isList (pi_one (tk := s1.toks) I1 _ (turn_list a _)
      ⟨_, Heap.get?_push_size _ rfl, rfl, rfl⟩ q)
  · subst hx
    obtain rfl : v = Value.ref a := r1
    obtain ⟨its, rv, p, hz⟩ := I1.tuple hq
    have pt : s1.heap.IsTuple a its.toArray := p
    exact wpAny_pyIter_tuple pt (pi_one (tk := s1.toks) I1 _ (turn_tuple a _)
      ⟨_, Heap.get?_push_size _ rfl, rfl, rfl⟩ q)
  · subst hx
    obtain ⟨t, rfl⟩ := r1
    by_cases ha : z.cps.all (· < 128) = true
    · exact wpAny_pyIter_ascii ha (pi_one (tk := s1.toks) I1 _ (turn_str _ z t _ (.inl rfl))
        ⟨_, Heap.get?_push_size _ rfl, rfl, rfl⟩ q)
    · have ha' : z.cps.all (· < 128) = false := by simpa using ha
      exact wpAny_pyIter_wide ha' (pi_one (tk := s1.toks) I1 _ (turn_str _ z t _ (.inr rfl))
        ⟨_, Heap.get?_push_size _ rfl, rfl, rfl⟩ q)
theorem none_le {α : Type} {l : List α} {i : Nat} (h : l[i]? = none) : l.length ≤ i := List.getElem?_eq_none_iff.mp h
theorem it_list {K : Frag} {Hs : Hp} {a : Addr} {vs : List V} {ds : List D} (h : SqL K Hs a vs) (t : Rps K Hs vs ds) : ItOk K Hs (Itl K a) ds := fun Hs1 H1 e1 e2 i => ⟨fun d hd => by
  obtain ⟨v, h1, h2⟩ := t.get hd
  have hq : SqL K H1 a vs := sqL_ex (e1.trans e2) h
  refine ⟨⟨vs, v, hq, h1⟩, fun x H2 ⟨hH, hx⟩ => ?_⟩
  subst hH
  have := hx vs hq
  rw [h1] at this
  cases this
  exact ⟨Hs1, .refl e2, h2.ex e1⟩, fun hn => ⟨vs, sqL_ex (e1.trans e2) h, by rw [t.length]; exact none_le hn⟩⟩
theorem it_tup {K : Frag} {Hs : Hp} {a : Addr} {vs : List V} {ds : List D} (h : StT K Hs a vs) (t : Rps K Hs vs ds) : ItOk K Hs (Itt K a) ds := fun Hs1 H1 e1 e2 i => ⟨fun d hd => by
  obtain ⟨v, h1, h2⟩ := t.get hd
  have hq : SqT K H1 a vs := sqT_ex (e1.trans e2) h
  refine ⟨⟨vs, v, hq, h1⟩, fun x H2 ⟨hH, hx⟩ => ?_⟩
  subst hH
  have := hx vs hq
  rw [h1] at this
  cases this
  exact ⟨Hs1, .refl e2, h2.ex e1⟩, fun hn => ⟨vs, sqT_ex (e1.trans e2) h, by rw [t.length]; exact none_le hn⟩⟩
theorem it_str {K : Frag} {Hs : Hp} {z : Str} : ItOk K Hs (Its z) (sgnD z) := fun Hs1 H1 e1 e2 i => ⟨fun d hd => by
  unfold sgnD at hd
  rw [List.getElem?_map, Option.map_eq_some_iff] at hd
  obtain ⟨c, hc, hd⟩ := hd
  subst hd
  rw [Array.getElem?_toList] at hc
  refine ⟨(Array.getElem?_eq_some_iff.mp hc).1, fun x H2 ⟨hH, c', hc', hx⟩ => ?_⟩
  subst hH; subst hx
  rw [hc] at hc'
  cases hc'
  exact ⟨Hs1, .refl e2, .str _⟩, fun hn => by
  have := none_le hn
  unfold sgnD at this
  rw [List.length_map, Array.length_toList] at this
  exact this⟩
def mIter (m : M D) : M (List D) := mBind m fun d => mOpt (dItems d)
theorem ji_any (h : PE X e (tOf X.K E ps m)) : PI X tg e (tOfI X.K E ps (mIter m)) :=
  pi_imp (pi_anyR h) fun σ H R ⟨W, Hs, δ, hp, re, po⟩ => tOf.step hp re po fun v d Hs1 H1 δ1 e1 re1 r1 po1 => by
    obtain ⟨ds, hd, po2⟩ := Post.opt po1
    cases r1 with
    | lst h t =>
      obtain rfl := Option.some.inj hd
      exact .inl ⟨_, rfl, ⟨_, sqL_ex re1.ex h⟩, Post.of po2 re1 _ (it_list h t)⟩
    | tup h t =>
      obtain rfl := Option.some.inj hd
      exact .inr (.inl ⟨_, rfl, ⟨_, sqT_ex re1.ex h⟩, Post.of po2 re1 _ (it_tup h t)⟩)
    | str z =>
      obtain rfl := Option.some.inj hd
      exact .inr (.inr ⟨z, rfl, Post.of po2 re1 _ it_str⟩)
    | _ => simp [dItems] at hd
def inLine (i : Int) : Bool := decide (-(2 ^ 62) ≤ i ∧ i < 2 ^ 62)
def rngD (i : Int) (n : Nat) : List D := (List.range n).map fun (k : Nat) => PyData.int (i + (k : Int))
def bRng1 : D → Option (List D)
  | .int j => if inLine j then some (rngD 0 j.toNat) else none
  | _ => none
def bRng2 : D → D → Option (List D)
  | .int i, .int j => if inLine i ∧ inLine j then some (rngD i (j - i).toNat) else none
  | _, _ => none
theorem it_rng {K : Frag} {Hs : Hp} {lo : Int} {n : Nat} : ItOk K Hs (Itr lo n) (rngD lo n) := fun Hs1 H1 e1 e2 i => ⟨fun d hd => by
  unfold rngD at hd
  rw [List.getElem?_map, Option.map_eq_some_iff] at hd
  obtain ⟨c, hc, hd⟩ := hd
  subst hd
  obtain ⟨hi, hc⟩ := List.getElem?_eq_some_iff.mp hc
  rw [List.getElem_range] at hc
  subst hc
  rw [List.length_range] at hi
  refine ⟨hi, fun x H2 ⟨hH, hx⟩ => ?_⟩
  subst hH; subst hx
  exact ⟨Hs1, .refl e2, .int _⟩, fun hn => by
  have := none_le hn
  unfold rngD at this
  rw [List.length_map, List.length_range] at this
  exact this⟩
def mRng1 (m : M D) : M (List D) := mBind m fun d => mOpt (bRng1 d)
def mRng2 (ma mb : M D) : M (List D) := mBind ma fun d => mBind mb fun e => mOpt (bRng2 d e)
theorem ji_range1 {a : Expr} {p : Pos} {ma : M D} (hg : Gl X "range") (hm : X.mg "range" = none) (ha : PE X a (tOf X.K E ps ma)) (hs : starEach [a] X.env = [(false, eval a X.env)] := by rfl) : PI X tg (.Call (.Name "range" p) [a] [] pos) (tOfI X.K E ps (mRng1 ma)) :=
  pi_imp (pi_range1 hg hm (pa_cons ha pa_nil hs) hs) fun σ H R ⟨W, Hs, δ, hp, re, po⟩ => tOf.step hp re po fun v d Hs1 H1 δ1 e1 re1 r1 po1 => by
    obtain ⟨ds, hd, po2⟩ := Post.opt po1
    cases r1 with
    | int j =>
      simp only [bRng1, Option.ite_none_right_eq_some, Option.some.injEq] at hd
      obtain ⟨hl, hd⟩ := hd
      subst hd
      have hl' := of_decide_eq_true hl
      exact ⟨j, rfl, hl'.1, hl'.2, Post.of po2 re1 _ it_rng⟩
    | _ => simp [bRng1] at hd
def forL (g : D → M Unit) (mb : M Fl) : List D → M Fl
  | [] => mNx
  | d :: ds => fun δ => match g d δ with
    | .ok _ δ1 => match mb δ1 with
      | .ok .nx δ2 => forL g mb ds δ2
      | .ok .ct δ2 => forL g mb ds δ2
      | .ok .bk δ2 => .ok .nx δ2
      | .ok (.rt s) δ2 => .ok (.rt s) δ2
      | .exc x δ2 => .exc x δ2
      | .bad => .bad
    | _ => .bad
def mFor (mi : M (List D)) (g : D → M Unit) (mb : M Fl) : M Fl := mBind mi (forL g mb)
theorem js_for {iter : Expr} {body : List Stmt} {mi : M (List D)} {gv : List Nat} {g : D → M Unit} {mb : M Fl} (hpa : PassesOwn (model X.prog X.w) X.A X.env X.xe) (hc : X.calm = true) (hi : PI X tg iter (tOfI X.K E ps mi)) (hg : PG X tg (gOf X.K E ps gv g)) (hb : PSs X body (tOfS X.K E ps mb))
    (hs : ∀ x, foldedSetIterable iter X.env x = pure x := by intro _; rfl) : PS X (.For tg iter body [] pos) (tOfS X.K E ps (mFor mi g mb)) :=
  pst_imp (ps_for hpa hc hi hg hb hs) fun B σ H ⟨W, Hs, δ, hp, re, po⟩ => Cf.stepS hp re po fun ds Hs1 H1 δ1 e1 re1 po1 J hJ => by
    refine ⟨fun i m σ' H' => m = ds.length - i ∧ i ≤ ds.length ∧ ∃ Hs2 δ2, Ex Hs1 Hs2 ∧ RE X.K W Hs2 H' σ' δ2 ∧ PostF X.K E W Hs2 (forL g mb (ds.drop i) δ2) B, ⟨ds.length, rfl, Nat.zero_le _, Hs1, δ1, Ex.refl _, re1, po1⟩, ?_⟩
    rintro i m σ' H' ⟨hm, hi, Hs2, δ2, e2, re2, po2⟩
    obtain ⟨j1, j2⟩ := hJ Hs2 H' e2 re2.ex i
    by_cases hlt : i < ds.length
    · have hd : ds[i]? = some ds[i] := List.getElem?_eq_getElem hlt
      obtain ⟨g1, g2⟩ := j1 _ hd
      refine .inr ⟨g1, fun σ3 H3 => ∃ Hs3 δ3, Ex Hs1 Hs3 ∧ RE X.K W Hs3 H3 σ3 δ3 ∧ PostF X.K E W Hs3 (forL g mb (ds.drop (i + 1)) δ3) B, fun σ3 H3 ⟨Hs3, δ3, e3, re3, po3⟩ => ⟨ds.length - (i + 1), by omega, rfl, hlt, Hs3, δ3, e3, re3, po3⟩, fun x H3 y => ?_⟩
      obtain ⟨Hs3, gr, rx⟩ := g2 x H3 y
      have re3 := re2.grow gr
      have po3 := PostS.ex po2 gr.s
      rw [List.drop_eq_getElem_cons hlt] at po3
      unfold forL at po3
      refine ⟨W, Hs3, δ2, ds[i], hp, re3, rx, ?_⟩
      cases q : g ds[i] δ2 with
      | ok u δ4 =>
        rw [q] at po3
        refine fun σ4 Hs4 H4 e4 re4 _ => ⟨W, Hs4, δ4, hp, re4, ?_⟩
        dsimp only at po3
        cases z : mb δ4 with
        | ok fl δ5 =>
          rw [z] at po3
          cases fl with
          | nx => exact fun σ5 Hs5 H5 e5 re5 => ⟨Hs5, δ5, ((e2.trans gr.s).trans e4).trans e5, re5, PostS.ex po3 (e4.trans e5)⟩
          | ct => exact fun σ5 Hs5 H5 e5 re5 => ⟨Hs5, δ5, ((e2.trans gr.s).trans e4).trans e5, re5, PostS.ex po3 (e4.trans e5)⟩
          | bk => exact fun σ5 Hs5 H5 e5 re5 => po3 σ5 Hs5 H5 (e4.trans e5) re5
          | rt s => cases s <;> exact fun σ5 Hs5 H5 e5 re5 => po3 σ5 Hs5 H5 (e4.trans e5) re5
        | exc x δ5 =>
          rw [z] at po3
          exact fun σ5 Hs5 H5 e5 re5 => po3 σ5 Hs5 H5 (e4.trans e5) re5
        | bad => rw [z] at po3; exact po3
      | exc x δ4 => rw [q] at po3; exact po3
      | bad => rw [q] at po3; exact po3
    · have e : i = ds.length := by omega
      subst e
      rw [List.drop_length] at po2
      exact .inl ⟨j2 (List.getElem?_eq_none_iff.mpr (Nat.le_refl _)), PostS.of po2 re2⟩
end
def wipeE (δ : Env) : List Nat → Env
  | [] => δ
  | v :: vs => (wipeE δ vs).set v .no
def backE (δ1 δ2 : Env) : List Nat → Env
  | [] => δ2
  | v :: vs => (backE δ1 δ2 vs).set v (δ1.getD v .no)
theorem wipeE_length (δ : Env) : ∀ vs, (wipeE δ vs).length = δ.length
  | [] => rfl
  | v :: vs => by unfold wipeE; rw [List.length_set, wipeE_length δ vs]
theorem backE_length (δ1 δ2 : Env) : ∀ vs, (backE δ1 δ2 vs).length = δ2.length
  | [] => rfl
  | v :: vs => by unfold backE; rw [List.length_set, backE_length δ1 δ2 vs]
theorem wipeE_in {δ : Env} {i : Nat} {s : Sl} : ∀ {vs : List Nat}, i ∈ vs → (wipeE δ vs)[i]? = some s → s = .no
  | v :: vs, h, q => by
    unfold wipeE at q
    rcases setGet q with ⟨_, z⟩ | ⟨hj, z⟩
    · exact z
    · rcases List.mem_cons.mp h with e | h
      · exact absurd e hj
      · exact wipeE_in h z
theorem wipeE_out {δ : Env} {i : Nat} : ∀ {vs : List Nat}, i ∉ vs → (wipeE δ vs)[i]? = δ[i]?
  | [], _ => rfl
  | v :: vs, h => by
    unfold wipeE
    have hne : v ≠ i := fun z => h (by simp [z])
    rw [List.getElem?_set_ne hne]
    exact wipeE_out fun z => h (List.mem_cons_of_mem _ z)
theorem backE_in {δ1 δ2 : Env} {i : Nat} {s : Sl} : ∀ {vs : List Nat}, i ∈ vs → (backE δ1 δ2 vs)[i]? = some s → s = δ1.getD i .no
  | v :: vs, h, q => by
    unfold backE at q
    rcases setGet q with ⟨hv, z⟩ | ⟨hj, z⟩
    · rw [hv]; exact z
    · rcases List.mem_cons.mp h with e | h
      · exact absurd e hj
      · exact backE_in h z
theorem backE_out {δ1 δ2 : Env} {i : Nat} : ∀ {vs : List Nat}, i ∉ vs → (backE δ1 δ2 vs)[i]? = δ2[i]?
  | [], _ => rfl
  | v :: vs, h => by
    unfold backE
    have hne : v ≠ i := fun z => h (by simp [z])
    rw [List.getElem?_set_ne hne]
    exact backE_out fun z => h (List.mem_cons_of_mem _ z)
theorem wipe_off {σ σ2 : L2.St} {vs gv : List Nat} (h : Off gv (wipe σ vs) σ2) (hs : ∀ i ∈ gv, i ∈ vs) : wipe σ2 vs = wipe σ vs := by
  apply List.ext_getElem?
  intro j
  by_cases hj : j ∈ vs
  · have f : ∀ (τ : L2.St) (us : List Nat), j ∈ us → (wipe τ us)[j]? = if j < τ.length then some none else none := fun τ us hju => by
      induction us with
      | nil => cases hju
      | cons u us ih =>
        unfold wipe
        by_cases e : u = j
        · subst e
          rw [List.getElem?_set]
          simp [wipe_length]
        · rw [List.getElem?_set_ne e]
          exact ih ((List.mem_cons.mp hju).resolve_left (Ne.symm e))
    rw [f _ _ hj, f _ _ hj, h.1, wipe_length]
  · rw [wipe_out hj, h.2 j (fun z => hj (hs j z)), wipe_out hj]
section
variable {K : Frag} {W : Wd} {Hs H Hs' H' : Hp} {σ : L2.St} {δ δ' : Env} {vs : List Nat}
theorem RE.wipe (re : RE K W Hs H σ δ) (hv : ∀ i ∈ vs, i ∉ W.pn.map (·.1)) : RE K W Hs H (wipe σ vs) (wipeE δ vs) := by
  have r1 : RE K W Hs H σ (wipeE δ vs) := re.less (wipeE_length δ vs) (fun i s q => by
    by_cases hi : i ∈ vs
    · exact .inl (wipeE_in hi q)
    · rw [wipeE_out hi] at q; exact .inr q) fun p hp => wipeE_out fun z => hv p.1 z (List.mem_map_of_mem hp)
  refine r1.sig (wipe_length σ vs) fun i s q hn => ?_
  by_cases hi : i ∈ vs
  · exact absurd (wipeE_in hi q) hn
  · exact wipe_out hi
/-- behind a block: its own names are as they were ahead of it -/
theorem RE.back (re : RE K W Hs H σ δ) (re2 : RE K W Hs' H' (L2.wipe σ vs) δ') (e : Ex Hs Hs') (hno : ∀ i ∈ vs, (δ.getD i .no).own = false) (hv : ∀ i ∈ vs, i ∉ W.pn.map (·.1)) : RE K W Hs' H' σ (backE δ δ' vs) where
  ex := re2.ex
  fg := re2.fg
  len := by rw [backE_length, ← re2.len, wipe_length]
  sh := fun i d q => by
    by_cases hi : i ∈ vs
    · have z := backE_in hi q
      have hg : δ[i]? = some (Sl.sh d) := by
        rw [List.getD_eq_getElem?_getD] at z
        cases w : δ[i]? with
        | none => rw [w] at z; cases z
        | some s => rw [w] at z; exact congrArg some z.symm
      obtain ⟨v, h1, h2⟩ := re.sh i d hg
      exact ⟨v, h1, h2.ex e⟩
    · rw [backE_out hi] at q
      obtain ⟨v, h1, h2⟩ := re2.sh i d q
      rw [wipe_out hi] at h1
      exact ⟨v, h1, h2⟩
  ow := fun i s q w => by
    by_cases hi : i ∈ vs
    · have z := backE_in hi q
      rw [z, hno i hi] at w
      cases w
    · rw [backE_out hi] at q
      obtain ⟨a, o, h1, h2⟩ := re2.ow i s q w
      rw [wipe_out hi] at h1
      exact ⟨a, o, h1, h2⟩
  ap := fun i j s t a h1 h2 h3 h4 h5 h6 => by
    by_cases hi : i ∈ vs
    · have z := backE_in hi h1
      rw [z, hno i hi] at h2
      cases h2
    · by_cases hj : j ∈ vs
      · have z := backE_in hj h3
        rw [z, hno j hj] at h4
        cases h4
      · rw [backE_out hi] at h1
        rw [backE_out hj] at h3
        rw [← wipe_out hi] at h5
        rw [← wipe_out hj] at h6
        exact re2.ap i j s t a h1 h2 h3 h4 h5 h6
  pin := fun p hp => by
    have hi : p.1 ∉ vs := fun z => hv p.1 z (List.mem_map_of_mem hp)
    obtain ⟨h1, s, h2, h3⟩ := re2.pin p hp
    rw [wipe_out hi] at h1
    exact ⟨h1, s, by rw [backE_out hi]; exact h2, h3⟩
/-- a list in the making is lent out to nobody -/
theorem RE.hide {D : Addr} {xs : List PyData} {acc : List V} (re : RE K W Hs H σ δ) (f : FrO K W Hs H σ δ D xs) (ha : H D = some (.lst acc)) : RE K { W with G := upd W.G D (.lst acc) } Hs H σ δ where
  ex := re.ex
  fg := fun a o q => by
    by_cases e : a = D
    · subst e
      have q : upd W.G a (.lst acc) a = some o := q
      rw [upd_same] at q
      cases q
      exact ⟨ha, f.hs⟩
    · have q : upd W.G D (.lst acc) a = some o := q
      rw [upd_ne e] at q
      exact re.fg a o q
  len := re.len
  sh := re.sh
  ow := fun i s q w => by
    obtain ⟨a, o, h1, h2, h3, h4, h5⟩ := re.ow i s q w
    refine ⟨a, o, h1, h2, h3, h4, ?_⟩
    have e : a ≠ D := fun z => f.ne i s q w (z ▸ h1)
    show upd W.G D (.lst acc) a = none
    rw [upd_ne e]
    exact h5
  ap := re.ap
  pin := re.pin
theorem RE.shown {D : Addr} {o u : HO} (re : RE K { W with G := upd W.G D o } Hs H σ δ) (hg : W.G D = none) : RE K W Hs (upd H D u) σ δ where
  ex := fun a o' q => by
    have h := (re.fg D o (by show upd W.G D o D = _; rw [upd_same])).2
    have e : a ≠ D := fun z => by rw [z, h] at q; cases q
    rw [upd_ne e]
    exact re.ex a o' q
  fg := fun a o' q => by
    have e : a ≠ D := fun z => by rw [z, hg] at q; cases q
    rw [upd_ne e]
    exact re.fg a o' (by show upd W.G D o a = _; rw [upd_ne e]; exact q)
  len := re.len
  sh := re.sh
  ow := fun i s q w => by
    obtain ⟨a, o', h1, h2, h3, h4, h5⟩ := re.ow i s q w
    have h5 : upd W.G D o a = none := h5
    have e : a ≠ D := fun z => by rw [z, upd_same] at h5; cases h5
    rw [upd_ne e] at h5
    exact ⟨a, o', h1, by rw [upd_ne e]; exact h2, h3, h4, h5⟩
  ap := re.ap
  pin := re.pin
theorem RE.hidden {D : Addr} {o : HO} (re : RE K { W with G := upd W.G D o } Hs H σ δ) (i : Nat) (s : Sl) (q : δ[i]? = some s) (w : s.own = true) : σ[i]? ≠ some (some (V.ref D)) := fun z => by
  obtain ⟨a, o', h1, h2, h3, h4, h5⟩ := re.ow i s q w
  rw [h1] at z
  cases z
  have h5 : upd W.G D o D = none := h5
  rw [upd_same] at h5
  cases h5
end
def mWipe (vs : List Nat) : M Unit := fun δ => .ok () (wipeE δ vs)
def compL (vs : List Nat) (g : D → M Unit) (mt : M Bool) (me : M D) : List D → M (List D)
  | [] => mPure []
  | d :: ds => fun δ => match g d δ with
    | .ok _ δ1 => mBind mt (fun b => if b then mBind me (fun y => mBind (mWipe vs) fun _ => mBind (compL vs g mt me ds) fun ys => mPure (y :: ys)) else mBind (mWipe vs) fun _ => compL vs g mt me ds) δ1
    | _ => .bad
def compE (vs : List Nat) (g : D → M Unit) (mt : M Bool) (me : M D) (ds : List D) : M (List D) := fun δ =>
  if (vs.all fun i => !(δ.getD i .no).own) = true ∧ ds.length ≤ sizeLine then
    match compL vs g mt me ds (wipeE δ vs) with
    | .ok ys δ2 => .ok ys (backE δ δ2 vs)
    | _ => .bad
  else .bad
def mComp (mi : M (List D)) (vs : List Nat) (g : D → M Unit) (mt : M Bool) (me : M D) : M (List D) := mBind mi (compE vs g mt me)
def mYes : M Bool := mPure true
end Dn
namespace Dn
open PySem PySem.Spec PyProof.Rows L2
section
variable {X : Cx} {E : XQ} {ps : List Nat} {tg e elt iter : Expr} {ifs : List Expr} {pos : Pos} {vs gv : List Nat} {mi : M (List D)} {g : D → M Unit} {mt : M Bool} {me : M D}
/-- what a comprehension's block makes, read off its parts -/
theorem lc_read (hgv : ∀ i ∈ gv, i ∈ vs) (hps : ∀ i ∈ vs, i ∉ ps) {σ : L2.St} {H : Hp} {Q : VK} (h : tOfO X.K E ps (mComp mi vs g mt me) σ H Q) :
    tLc (tOfI X.K E ps mi) (gOf X.K noX ps gv g) (tOfT X.K noX ps mt) (tOf X.K noX ps me) vs σ H Q := by
  obtain ⟨W, Hs, δ, hp, re, po⟩ := h
  have hpn : ∀ i ∈ vs, i ∉ W.pn.map (·.1) := fun i hi => by rw [hp]; exact hps i hi
  refine Cf.step hp re po fun ds Hs1 H1 δ1 e1 re1 po1 J hJ C hC => ?_
  unfold compE at po1
  split at po1
  · rename_i hcond
    obtain ⟨hno', hlen⟩ := hcond
    have hno : ∀ i ∈ vs, (δ1.getD i .no).own = false := fun i hi => by
      have := List.all_eq_true.mp hno' i hi
      simpa using this
    cases hcl : compL vs g mt me ds (wipeE δ1 vs) with
    | ok ys δf =>
      rw [hcl] at po1
      have en : Ex H1 (upd H1 C (.lst [])) := ex_new hC
      have gC : W.G C = none := by
        cases q : W.G C with
        | none => rfl
        | some u => have := (re1.fg C u q).1; rw [hC] at this; cases this
      have re2 := (re1.newH en).wipe (vs := vs) hpn
      have f0 : FrO X.K W Hs1 (upd H1 C (.lst [])) (wipe σ vs) (wipeE δ1 vs) C [] := ⟨⟨[], upd_same, .nil⟩, ex_none re1.ex hC, gC, fun i s q w z => by
        obtain ⟨a, o, h1, h2, _⟩ := (re1.wipe (vs := vs) hpn).ow i s q w
        rw [h1] at z
        cases z
        rw [hC] at h2; cases h2⟩
      refine ⟨fun i m H' => m = ds.length - i ∧ i ≤ ds.length ∧ ∃ Hs2 δ2 done ys2, Ex Hs1 Hs2 ∧ RE X.K W Hs2 H' (wipe σ vs) δ2 ∧ FrO X.K W Hs2 H' (wipe σ vs) δ2 C done ∧ done.length ≤ i ∧ compL vs g mt me (ds.drop i) δ2 = .ok ys2 δf ∧ done ++ ys2 = ys,
        ⟨ds.length, rfl, Nat.zero_le _, Hs1, _, [], ys, Ex.refl _, re2, f0, Nat.le_refl _, hcl, rfl⟩, ?_⟩
      rintro i m H' ⟨hm, hi, Hs2, δ2, done, ys2, e2, re3, f3, hdl, hc3, hys⟩
      obtain ⟨j1, j2⟩ := hJ Hs2 H' e2 re3.ex i
      by_cases hlt : i < ds.length
      · have hd : ds[i]? = some ds[i] := List.getElem?_eq_getElem hlt
        obtain ⟨g1, g2⟩ := j1 _ hd
        refine .inr ⟨g1, fun H3 => ∃ Hs3 δ3 done ys2, Ex Hs1 Hs3 ∧ RE X.K W Hs3 H3 (wipe σ vs) δ3 ∧ FrO X.K W Hs3 H3 (wipe σ vs) δ3 C done ∧ done.length ≤ i + 1 ∧ compL vs g mt me (ds.drop (i + 1)) δ3 = .ok ys2 δf ∧ done ++ ys2 = ys,
          fun H3 hN => ⟨ds.length - (i + 1), by omega, rfl, hlt, hN⟩, fun x H3 y => ?_⟩
        obtain ⟨Hs3, gr, rx⟩ := g2 x H3 y
        obtain ⟨acc, ha, hr⟩ := f3.at_
        have re4 := re3.grow gr
        have f4 : FrO X.K W Hs3 H3 (wipe σ vs) δ2 C done := ⟨⟨acc, gr.h C _ ha, hr.ex gr.s⟩, by rw [gr.f C (by rw [ha]; simp)]; exact f3.hs, f3.g, f3.ne⟩
        have re5 := re4.hide f4 (gr.h C _ ha)
        rw [List.drop_eq_getElem_cons hlt] at hc3
        unfold compL at hc3
        have hp' : ({ W with G := upd W.G C (.lst acc) } : Wd).pn.map (·.1) = ps := hp
        refine ⟨{ W with G := upd W.G C (.lst acc) }, Hs3, δ2, ds[i], hp', re5, rx, ?_⟩
        cases q : g ds[i] δ2 with
        | ok u δ4 =>
          rw [q] at hc3
          refine fun σ4 Hs4 H4 e4 re6 of4 => ⟨wipe_off of4 hgv, ?_⟩
          dsimp only at hc3
          -- a turn's end: the names wiped, the list as it is then
          have turn : ∀ {Hs5 H5 : Hp} {δ5 : Env} {u : HO}, RE X.K { W with G := upd W.G C (.lst acc) } Hs5 H5 σ4 δ5 → RE X.K W Hs5 (upd H5 C u) (wipe σ vs) (wipeE δ5 vs) ∧ (∀ (i : Nat) (s : Sl), (wipeE δ5 vs)[i]? = some s → s.own = true → (wipe σ vs)[i]? ≠ some (some (V.ref C))) ∧ Hs5 C = none ∧ H5 C = some (.lst acc) := fun {Hs5 H5 δ5 u} re7 => by
            have rw7 := re7.wipe (vs := vs) hpn
            rw [wipe_off of4 hgv] at rw7
            have hf := re7.fg C (.lst acc) (by show upd W.G C _ C = _; rw [upd_same])
            exact ⟨rw7.shown f3.g, rw7.hidden, hf.2, hf.1⟩
          refine ⟨_, Hs4, δ4, hp', re6, ?_⟩
          cases zt : mt δ4 with
          | ok b δ5 =>
            rw [show mBind mt _ δ4 = _ from by unfold mBind; rw [zt]] at hc3
            dsimp only at hc3
            refine fun Hs5 H5 e5 re7 => ?_
            cases b with
            | true =>
              rw [if_pos rfl] at hc3 ⊢
              refine ⟨_, Hs5, δ5, hp', re7, ?_⟩
              cases ze : me δ5 with
              | ok yv δ6 =>
                rw [ze] at hc3
                refine fun Hs6 H6 e6 re8 v rv => ?_
                obtain ⟨t1, t2, t3, t4⟩ := turn (u := .lst (acc ++ [v])) re8
                have hal : acc.length = done.length := hr.length
                refine ⟨acc, t4, by omega, ?_⟩
                have hc4 : mBind (compL vs g mt me (ds.drop (i + 1))) (fun ys => mPure (yv :: ys)) (wipeE δ6 vs) = .ok ys2 δf := hc3
                cases zr : compL vs g mt me (ds.drop (i + 1)) (wipeE δ6 vs) with
                | ok ys3 δ7 =>
                  unfold mBind at hc4
                  rw [zr] at hc4
                  have hc5 : Res.ok (yv :: ys3) δ7 = Res.ok ys2 δf := hc4
                  injection hc5 with k1 k2
                  subst k1; subst k2
                  have e16 : Ex Hs1 Hs6 := (((e2.trans gr.s).trans e4).trans e5).trans e6
                  exact ⟨Hs6, _, done ++ [yv], ys3, e16, t1, ⟨⟨acc ++ [v], upd_same, (hr.ex (((gr.s).trans e4).trans (e5.trans e6))).snoc rv⟩, t3, f3.g, t2⟩, by simp; exact hdl, zr, by rw [← hys]; simp⟩
                | exc x δ7 => unfold mBind at hc4; rw [zr] at hc4; cases hc4
                | bad => unfold mBind at hc4; rw [zr] at hc4; cases hc4
              | exc x δ6 => rw [ze] at hc3; cases hc3
              | bad => rw [ze] at hc3; cases hc3
            | false =>
              rw [if_neg Bool.false_ne_true] at hc3 ⊢
              obtain ⟨t1, t2, t3, t4⟩ := turn (u := .lst acc) re7
              have hu : upd H5 C (.lst acc) = H5 := by
                funext b
                by_cases hb : b = C
                · subst hb; rw [upd_same, t4]
                · rw [upd_ne hb]
              rw [hu] at t1
              have hc4 : compL vs g mt me (ds.drop (i + 1)) (wipeE δ5 vs) = .ok ys2 δf := hc3
              exact ⟨Hs5, _, done, ys2, ((e2.trans gr.s).trans e4).trans e5, t1, ⟨⟨acc, t4, hr.ex ((gr.s.trans e4).trans e5)⟩, t3, f3.g, t2⟩, by omega, hc4, hys⟩
          | exc x δ5 => rw [show mBind mt _ δ4 = _ from by unfold mBind; rw [zt]] at hc3; cases hc3
          | bad => rw [show mBind mt _ δ4 = _ from by unfold mBind; rw [zt]] at hc3; cases hc3
        | exc x δ4 => rw [q] at hc3; cases hc3
        | bad => rw [q] at hc3; cases hc3
      · have ei : i = ds.length := by omega
        subst ei
        rw [List.drop_length] at hc3
        have hc4 : Res.ok ([] : List D) δ2 = Res.ok ys2 δf := hc3
        injection hc4 with k1 k2
        subst k1; subst k2
        rw [List.append_nil] at hys
        subst hys
        refine .inl ⟨j2 (List.getElem?_eq_none_iff.mpr (Nat.le_refl _)), ?_⟩
        have rb := re1.back re3 e2 hno hpn
        refine po1 Hs2 H' e2 rb C ⟨f3.at_, f3.hs, f3.g, fun i s q w => ?_⟩
        by_cases hi' : i ∈ vs
        · have z := backE_in hi' q
          rw [z, hno i hi'] at w
          cases w
        · rw [backE_out hi'] at q
          rw [← wipe_out hi']
          exact f3.ne i s q w
    | exc x δf => rw [hcl] at po1; exact po1.elim
    | bad => rw [hcl] at po1; exact po1.elim
  · exact po1.elim
theorem jts_nil : PTs X [] (tOfT X.K E ps mYes) := ⟨fun pins s σ H Q I ⟨W, Hs, δ, hp, re, po⟩ => pts_nil.run pins s σ H Q I (Post.of po re)⟩
theorem jts_one {c : Expr} (h : PT X c (tOfT X.K E ps mt)) : PTs X [c] (tOfT X.K E ps mt) := pts_one h
theorem jo_comp {scope : Scope} {own : List (Str × Nat)} (hgv : ∀ i ∈ gv, i ∈ own.map (·.2)) (hps : ∀ i ∈ own.map (·.2), i ∉ ps) (hc : X.calm = true) (hN : X.N.Nodup) (hi : PI X tg iter (tOfI X.K E ps mi)) (ok : BlkOk X.N X.env.scope scope own)
    (hg : ∀ (s : Shared) (H : Hp) (C : Addr) (cl : List (Str × Addr)) (fp : List Addr), PG (X.blk s H scope (compEnvC scope cl C X.env) fp) tg (gOf X.K noX ps gv g)) (ht : ∀ (s : Shared) (H : Hp) (C : Addr) (cl : List (Str × Addr)) (fp : List Addr), PTs (X.blk s H scope (compEnvC scope cl C X.env) fp) ifs (tOfT X.K noX ps mt))
    (he : ∀ (s : Shared) (H : Hp) (C : Addr) (cl : List (Str × Addr)) (fp : List Addr), PE (X.blk s H scope (compEnvC scope cl C X.env) fp) elt (tOf X.K noX ps me)) (hs : ∀ x, foldedSetIterable iter X.env x = pure x := by intro _; rfl) :
    PE X (.ListComp elt [⟨tg, iter, ifs, 0⟩] scope pos) (tOfO X.K E ps (mComp mi (own.map (·.2)) g mt me)) :=
  pe_imp (pe_lc hc hN hi ok hg ht he hs) fun σ H Q h => lc_read hgv hps h
/-- shared data at last -/
def mFr (m : M (List D)) : M D := mBind m fun xs => mPure (.list xs)
theorem frS {m : M (List D)} {σ : L2.St} {H : Hp} {Q : VK} (h : tOf X.K E ps (mFr m) σ H Q) : tOfO X.K E ps m σ H Q := by
  obtain ⟨W, Hs, δ, hp, re, po⟩ := h
  refine Cf.step hp re po fun xs Hs1 H1 δ1 e1 re1 po1 a fa => ?_
  obtain ⟨Hs2, k1, k2, k3⟩ := re1.freeze fa
  exact po1 Hs2 H1 k1 k2 _ k3
theorem je_fr {m : M (List D)} (h : PE X e (tOfO X.K E ps m)) : PE X e (tOf X.K E ps (mFr m)) := pe_imp h fun σ H Q q => frS q
theorem js_lc {i : Nat} {y : Str} {py : Pos} {scope : Scope} {own : List (Str × Nat)} {spos : Pos} (hips : i ∉ ps) (hgv : ∀ i ∈ gv, i ∈ own.map (·.2)) (hps : ∀ i ∈ own.map (·.2), i ∉ ps) (hc : X.calm = true) (hN : X.N.Nodup) (hy : X.N[i]? = some y) (hyl : X.env.scope.names.lookup y = some .local)
    (hsw : swapsWith (.ListComp elt [⟨tg, iter, ifs, 0⟩] scope pos) (some (.Name y py)) spos.line X.env = pure true) (hi : PI X tg iter (tOfI X.K E ps mi)) (ok : BlkOk X.N X.env.scope scope own)
    (hg : ∀ (s : Shared) (H : Hp) (C : Addr) (cl : List (Str × Addr)) (fp : List Addr), PG (X.blk s H scope (compEnvC scope cl C X.env) fp) tg (gOf X.K noX ps gv g)) (ht : ∀ (s : Shared) (H : Hp) (C : Addr) (cl : List (Str × Addr)) (fp : List Addr), PTs (X.blk s H scope (compEnvC scope cl C X.env) fp) ifs (tOfT X.K noX ps mt))
    (he : ∀ (s : Shared) (H : Hp) (C : Addr) (cl : List (Str × Addr)) (fp : List Addr), PE (X.blk s H scope (compEnvC scope cl C X.env) fp) elt (tOf X.K noX ps me)) (hs : ∀ x, foldedSetIterable iter X.env x = pure x := by intro _; rfl) :
    PS X (.Assign [.Name y py] (.ListComp elt [⟨tg, iter, ifs, 0⟩] scope pos) spos) (tOfS X.K E ps (mSet i (mFr (mComp mi (own.map (·.2)) g mt me)))) :=
  pst_imp (ps_setLc hc hN hy hyl hsw hi ok hg ht he hs) fun B σ H ⟨W, Hs, δ, hp, re, po⟩ => lc_read hgv hps (by
    have po' : PostF X.K E W Hs (mBind (mComp mi (own.map (·.2)) g mt me) (fun xs => fun δ => .ok .nx (δ.set i (.sh (.list xs)))) δ) B := by
      have e : mSet i (mFr (mComp mi (own.map (·.2)) g mt me)) δ = mBind (mComp mi (own.map (·.2)) g mt me) (fun xs => fun δ => .ok .nx (δ.set i (.sh (.list xs)))) δ := by
        unfold mSet mFr mBind mPure
        cases mComp mi (own.map (·.2)) g mt me δ <;> rfl
      rw [← e]; exact po
    refine tOfO.stepS hp re po' fun a xs Hs1 H1 δ1 e1 re1 f1 po1 => ?_
    obtain ⟨Hs2, k1, k2, k3⟩ := re1.freeze f1
    exact PostS.of (PostS.ex po1 k1) (k2.setSh k3 (by rw [hp]; exact hips)))
end
end Dn
namespace Dn
open PySem PySem.Spec PyProof.Rows L2
/-- what is left of the slots behind a def: a caller's own lists -/
def outs (ps : List Nat) (n : Nat) (δ : Env) : Env := (List.range n).map fun i => if i ∈ ps then δ.getD i .no else .no
def fnF (n N : Nat) (ps : List Nat) (mb : M Fl) : Env → Res Sl := fun as => match mb (as ++ List.replicate (N - n) .no) with
  | .ok (.rt s) δ' => .ok s (outs ps n δ')
  | .ok .nx δ' => .ok (.sh .none) (outs ps n δ')
  | .exc x δ' => .exc x (outs ps n δ')
  | _ => .bad
def RetR (K : Frag) (W : Wd) (Hs H : Hp) (σ : L2.St) (δ : Env) (s : Sl) (Q : VK) : Prop := match s with
  | .sh d => ∀ v, Rp K Hs v d → Q v H
  | .ow xs => ∀ a, FrO K W Hs H σ δ a xs → Q (.ref a) H
  | .no => False
/-- what a def promises: F, upon what its parameters hold -/
def spF (K : Frag) (n : Nat) (ps : List Nat) (F : Env → Res Sl) : Sp := fun vs H Q E => vs.length = n ∧ ∃ (W : Wd) (Hs : Hp) (as : Env), W.pn.map (·.1) = ps ∧ RE K W Hs H (vs.map some) as ∧
  match F as with
  | .ok s as' => ∀ Hs' H', Ex Hs Hs' → RE K W Hs' H' (vs.map some) as' → RetR K W Hs' H' (vs.map some) as' s Q
  | .exc x as' => False
  | .bad => False
theorem outs_get {ps : List Nat} {n i : Nat} {δ : Env} {s : Sl} (h : (outs ps n δ)[i]? = some s) (hn : s ≠ .no) : i < n ∧ i ∈ ps ∧ δ[i]? = some s := by
  unfold outs at h
  rw [List.getElem?_map, Option.map_eq_some_iff] at h
  obtain ⟨j, hj, h⟩ := h
  obtain ⟨hi, hj⟩ := List.getElem?_eq_some_iff.mp hj
  rw [List.getElem_range] at hj
  subst hj
  rw [List.length_range] at hi
  by_cases hp : i ∈ ps
  · rw [if_pos hp] at h
    refine ⟨hi, hp, ?_⟩
    rw [List.getD_eq_getElem?_getD] at h
    cases w : δ[i]? with
    | none => rw [w] at h; exact absurd h.symm hn
    | some t => rw [w] at h; exact congrArg some h
  · rw [if_neg hp] at h
    exact absurd h.symm hn
section
variable {K : Frag} {W : Wd} {Hs H Hs' H' : Hp} {σ : L2.St} {δ δ' : Env} {vs : List V} {N n : Nat} {as : Env}
theorem RE.app (r : RE K W Hs H σ δ) (k : Nat) : RE K W Hs H (σ ++ List.replicate k none) (δ ++ List.replicate k .no) where
  ex := r.ex
  fg := r.fg
  len := by simp [r.len]
  sh := fun i d q => by
    by_cases hi : i < δ.length
    · rw [List.getElem?_append_left hi] at q
      rw [List.getElem?_append_left (by rw [r.len]; exact hi)]
      exact r.sh i d q
    · rw [List.getElem?_append_right (by omega), List.getElem?_replicate] at q
      split at q <;> cases q
  ow := fun i s q w => by
    by_cases hi : i < δ.length
    · rw [List.getElem?_append_left hi] at q
      rw [List.getElem?_append_left (by rw [r.len]; exact hi)]
      exact r.ow i s q w
    · rw [List.getElem?_append_right (by omega), List.getElem?_replicate] at q
      split at q
      · cases q; cases w
      · cases q
  ap := fun i j s t a h1 h2 h3 h4 h5 h6 => by
    have f : ∀ {i : Nat} {s : Sl}, (δ ++ List.replicate k Sl.no)[i]? = some s → s.own = true → i < δ.length := fun {i s} q w => by
      by_cases hi : i < δ.length
      · exact hi
      · rw [List.getElem?_append_right (by omega), List.getElem?_replicate] at q
        split at q
        · cases q; cases w
        · cases q
    have li := f h1 h2
    have lj := f h3 h4
    rw [List.getElem?_append_left li] at h1
    rw [List.getElem?_append_left lj] at h3
    rw [List.getElem?_append_left (by rw [r.len]; exact li)] at h5
    rw [List.getElem?_append_left (by rw [r.len]; exact lj)] at h6
    exact r.ap i j s t a h1 h2 h3 h4 h5 h6
  pin := fun p hp => by
    obtain ⟨h1, s, h2, h3⟩ := r.pin p hp
    have l1 := (List.getElem?_eq_some_iff.mp h1).1
    have l2 := (List.getElem?_eq_some_iff.mp h2).1
    exact ⟨by rw [List.getElem?_append_left l1]; exact h1, s, by rw [List.getElem?_append_left l2]; exact h2, h3⟩
/-- behind a def's body -/
theorem RE.outs {ps : List Nat} (r0 : RE K W Hs H (vs.map some) as) (hp : W.pn.map (·.1) = ps) (r : RE K W Hs' H' σ δ) : RE K W Hs' H' (vs.map some) (outs ps vs.length δ) := by
  have f : ∀ {i : Nat} {s : Sl}, (Dn.outs ps vs.length δ)[i]? = some s → s ≠ .no → δ[i]? = some s ∧ (vs.map some)[i]? = σ[i]? ∧ s.own = true := fun {i s} q hn => by
    obtain ⟨h1, h2, h3⟩ := outs_get q hn
    rw [← hp] at h2
    obtain ⟨p, hpm, hpe⟩ := List.mem_map.mp h2
    obtain ⟨a1, _⟩ := r0.pin p hpm
    obtain ⟨b1, s', b2, b3⟩ := r.pin p hpm
    rw [hpe] at a1 b1 b2
    rw [h3] at b2
    cases b2
    exact ⟨h3, a1.trans b1.symm, b3⟩
  exact {
    ex := r.ex
    fg := r.fg
    len := by simp [Dn.outs]
    sh := fun i d q => by
      obtain ⟨h1, h2, h3⟩ := f q (by simp)
      cases h3
    ow := fun i s q w => by
      obtain ⟨h1, h2, h3⟩ := f q (by rintro rfl; cases w)
      rw [h2]
      exact r.ow i s h1 w
    ap := fun i j s t a h1 h2 h3 h4 h5 h6 => by
      obtain ⟨a1, a2, _⟩ := f h1 (by rintro rfl; cases h2)
      obtain ⟨b1, b2, _⟩ := f h3 (by rintro rfl; cases h4)
      rw [a2] at h5
      rw [b2] at h6
      exact r.ap i j s t a a1 h2 b1 h4 h5 h6
    pin := fun p hpm => by
      obtain ⟨a1, _⟩ := r0.pin p hpm
      obtain ⟨b1, s', b2, b3⟩ := r.pin p hpm
      refine ⟨a1, s', ?_, b3⟩
      have hl : p.1 < vs.length := by
        have := (List.getElem?_eq_some_iff.mp a1).1
        simpa using this
      unfold Dn.outs
      rw [List.getElem?_map, List.getElem?_range hl]
      have hm : p.1 ∈ ps := by rw [← hp]; exact List.mem_map_of_mem hpm
      simp only [Option.map_some, if_pos hm]
      rw [List.getD_eq_getElem?_getD, b2]
      rfl }
theorem FrO.outs {ps : List Nat} {a : Addr} {xs : List D} (r0 : RE K W Hs H (vs.map some) as) (hp : W.pn.map (·.1) = ps) (r : RE K W Hs' H' σ δ) (f : FrO K W Hs' H' σ δ a xs) : FrO K W Hs' H' (vs.map some) (Dn.outs ps vs.length δ) a xs :=
  ⟨f.at_, f.hs, f.g, fun i s q w => by
    obtain ⟨h1, h2, h3⟩ := outs_get q (by rintro rfl; cases w)
    rw [← hp] at h2
    obtain ⟨p, hpm, hpe⟩ := List.mem_map.mp h2
    obtain ⟨a1, _⟩ := r0.pin p hpm
    obtain ⟨b1, _⟩ := r.pin p hpm
    rw [hpe] at a1 b1
    rw [a1, ← b1]
    exact f.ne i s h3 w⟩
end
section
variable {P : Program} {w : World} {K : Frag} {mg : Str → Option Value} {base : Heap}
/-- a def keeps its promise: by its body as a run upon data -/
theorem fn_J {x qual : Str} {st : Stmt} {f : Addr} {fd : FuncData} {N pr : List Str} {k n nN : Nat} {ps : List Nat} {mb : M Fl} (F : Fun K x qual st f fd) (S : FnScope N pr (defScope st)) (hn : pr.length = n) (hN : N.length = nN) (hle : n ≤ nN)
    (hbody : ∀ (cdv : Value) (A : Around) (outer : List PySem.Env) (s : Shared) (H : Hp) (E : XK), Room k (A.deeper (envOfC qual (defScope st) s.heap.objs.size f cdv)) →
      PSs (cxOf CX0 P w K mg base N qual (defScope st) f cdv A outer s H E).nox (defBody st) (tOfS K noX ps mb)) : FnOk P w K mg base CX0 (k + 1) f fd pr (spF K n ps (fnF n nN ps mb)) := by
  refine F.ok S (fun vs H Q E h => by rw [h.1, hn]) fun cdv A outer s H vs Q E hr h => ⟨_, hbody cdv A outer s H E hr, ?_⟩
  obtain ⟨hl, W, Hs, as, hp, re, po⟩ := h
  have hst : L2.start N vs = vs.map some ++ List.replicate (nN - n) none := by unfold L2.start; rw [hN, hl]
  refine ⟨W, Hs, as ++ List.replicate (nN - n) .no, hp, by rw [hst]; exact re.app _, ?_⟩
  unfold fnF at po
  cases q : mb (as ++ List.replicate (nN - n) .no) with
  | ok fl δ' =>
    rw [q] at po
    cases fl with
    | nx =>
      intro σ' Hs' H' e r
      have hr' := re.outs hp r
      rw [hl] at hr'
      exact po Hs' H' e hr' .non .non
    | rt sl =>
      cases sl with
      | sh d =>
        intro σ' Hs' H' e r v rv
        have hr' := re.outs hp r
        rw [hl] at hr'
        exact po Hs' H' e hr' v rv
      | ow xs =>
        intro σ' Hs' H' e r a fa
        have hr' := re.outs hp r
        have hf := FrO.outs re hp r fa
        rw [hl] at hr' hf
        exact po Hs' H' e hr' a hf
      | no =>
        intro σ' Hs' H' e r
        have hr' := re.outs hp r
        rw [hl] at hr'
        exact po Hs' H' e hr'
    | bk => exact po.elim
    | ct => exact po.elim
  | exc x δ' => rw [q] at po; exact po.elim
  | bad => rw [q] at po; exact po.elim
end
def agSl (δ : Env) : Ag → Sl
  | .sh d => .sh d
  | .ow i => δ.getD i .no
def ownAt : Nat → List Ag → List Nat
  | _, [] => []
  | k, .sh _ :: gs => ownAt (k + 1) gs
  | k, .ow _ :: gs => k :: ownAt (k + 1) gs
def ownIx : List Ag → List Nat
  | [] => []
  | .sh _ :: gs => ownIx gs
  | .ow i :: gs => i :: ownIx gs
def putBack (δ : Env) : List Ag → List Sl → Env
  | .ow i :: gs, s :: ss => (putBack δ gs ss).set i s
  | .sh _ :: gs, _ :: ss => putBack δ gs ss
  | _, _ => δ
def callF (n : Nat) (ps : List Nat) (F : Env → Res Sl) (gs : List Ag) : M Sl := fun δ =>
  if gs.length = n ∧ ownAt 0 gs = ps ∧ (ownIx gs).Nodup ∧ ((ownIx gs).all fun i => (δ.getD i .no).own) = true then
    match F (gs.map (agSl δ)) with
    | .ok s as' => .ok s (putBack δ gs as')
    | _ => .bad
  else .bad
def mCall (n : Nat) (ps : List Nat) (F : Env → Res Sl) (as : List AM) : M Sl := mBind (evA as) (callF n ps F)
end Dn
namespace Dn
open PySem PySem.Spec PyProof.Rows L2
theorem AgR.len {K : Frag} {Hs : Hp} {σ : L2.St} : ∀ {vs : List V} {gs : List Ag}, AgR K Hs σ vs gs → vs.length = gs.length
  | [], [], _ => rfl
  | [], _ :: _, h => h.elim
  | _ :: _, [], h => h.elim
  | _ :: _, .sh _ :: _, h => by rw [List.length_cons, List.length_cons, AgR.len h.2]
  | _ :: _, .ow _ :: _, h => by rw [List.length_cons, List.length_cons, AgR.len h.2]
section
variable {X : Cx} {E : XQ} {ps : List Nat} {e : Expr} {es : List Expr} {pos : Pos} {as : List AM} {k n : Nat} {f : Addr} {fd : FuncData} {pr : List Str} {qs : List Nat} {F : Env → Res Sl} {x : Str} {p : Pos}
theorem bind_assoc {α β γ : Type} (m : M α) (f : α → M β) (g : β → M γ) : mBind (mBind m f) g = mBind m fun a => mBind (f a) g := by
  funext δ
  unfold mBind
  cases m δ <;> rfl
end
end Dn
namespace Dn
open PySem PySem.Spec PyProof.Rows L2
@[irreducible] def Run {α : Type} (m : M α) (δ : Env) (Q : α → Env → Prop) : Prop := match m δ with
  | .ok a δ' => Q a δ'
  | _ => False
@[irreducible] def FRun (F : Env → Res Sl) (as : Env) (Q : Sl → Env → Prop) : Prop := match F as with
  | .ok s as' => Q s as'
  | _ => False
section
variable {α β : Type} {δ δ1 : Env} {m : M D}
theorem Run.i {m : M α} {Q : α → Env → Prop} (h : match m δ with
  | .ok a δ' => Q a δ'
  | _ => False) : Run m δ Q := by unfold Run; exact h
theorem run_pure {a : α} {Q : α → Env → Prop} (h : Q a δ) : Run (mPure a) δ Q := Run.i h
theorem Run.mono {m : M α} {Q Q' : α → Env → Prop} (h : Run m δ Q) (k : ∀ a e, Q a e → Q' a e) : Run m δ Q' := by
  unfold Run at *
  cases q : m δ with
  | ok a e => rw [q] at h; exact k a e h
  | exc x e => rw [q] at h; exact h
  | bad => rw [q] at h; exact h
theorem FRun.mono {F : Env → Res Sl} {as : Env} {Q Q' : Sl → Env → Prop} (h : FRun F as Q) (k : ∀ a e, Q a e → Q' a e) : FRun F as Q' := by
  unfold FRun at *
  cases q : F as with
  | ok a e => rw [q] at h; exact k a e h
  | exc x e => rw [q] at h; exact h
  | bad => rw [q] at h; exact h
theorem FRun.of {F : Env → Res Sl} {as as' : Env} {s : Sl} {Q : Sl → Env → Prop} (h : F as = .ok s as') (k : Q s as') : FRun F as Q := by
  unfold FRun
  rw [h]
  exact k
theorem FRun.to {F : Env → Res Sl} {as : Env} {Q : Sl → Env → Prop} (h : FRun F as Q) : ∃ s as', F as = .ok s as' ∧ Q s as' := by
  unfold FRun at h
  cases q : F as with
  | ok a e => rw [q] at h; exact ⟨a, e, rfl, h⟩
  | exc x e => rw [q] at h; exact h.elim
  | bad => rw [q] at h; exact h.elim
theorem run_bind {m : M α} {f : α → M β} {Q : β → Env → Prop} (h : Run m δ fun a e => Run (f a) e Q) : Run (mBind m f) δ Q := by
  unfold Run at *
  unfold mBind
  cases q : m δ with
  | ok a e => rw [q] at h; exact h
  | exc x e => rw [q] at h; exact h
  | bad => rw [q] at h; exact h
theorem run_opt {o : Option α} {Q : α → Env → Prop} (h : ∃ a, o = some a ∧ Q a δ) : Run (mOpt o) δ Q := by
  obtain ⟨a, h1, h2⟩ := h
  subst h1
  exact Run.i h2
theorem run_var {i : Nat} {d : D} {Q : D → Env → Prop} (h : δ[i]? = some (Sl.sh d)) (k : Q d δ) : Run (mVar i) δ Q := by
  unfold Run mVar
  rw [h]
  exact k
theorem run_c {d : D} {Q : D → Env → Prop} (k : Q d δ) : Run (mC d) δ Q := run_pure k
theorem run_own {i : Nat} {xs : List D} {Q : List D → Env → Prop} (h : δ[i]? = some (Sl.ow xs)) (k : Q xs δ) : Run (mOwn i) δ Q := by
  unfold Run mOwn
  rw [h]
  exact k
theorem run_bin {g : D → D → Option D} {ma mb : M D} {Q : D → Env → Prop} (h : Run ma δ fun d e1 => Run mb e1 fun e e2 => ∃ c, g d e = some c ∧ Q c e2) : Run (mBin g ma mb) δ Q :=
  run_bind (h.mono fun _ _ h => run_bind (h.mono fun _ _ h => run_opt h))
theorem run_test {Q : Bool → Env → Prop} (h : Run m δ fun d e => ∃ b, toB d = some b ∧ Q b e) : Run (mTest m) δ Q := run_bind (h.mono fun _ _ h => run_opt h)
theorem run_chain {g g' : D → D → Option D} {ma mb mc : M D} {Q : D → Env → Prop} (h : Run ma δ fun d e1 => Run mb e1 fun e e2 => ∃ c, g d e = some c ∧ ∃ b, toB c = some b ∧ (b = true → Run mc e2 fun f e3 => ∃ c, g' e f = some c ∧ Q c e3) ∧ (b = false → Q (.bool false) e2)) : Run (mChain g g' ma mb mc) δ Q :=
  run_bind (h.mono fun d _ h => run_bind (h.mono fun e _ ⟨c, h1, b, h2, h3, h4⟩ => run_bind (run_opt ⟨b, by rw [h1]; exact h2, by
    cases b with
    | true => exact run_bind ((h3 rfl).mono fun _ _ h => run_opt h)
    | false => exact run_pure (h4 rfl)⟩)))
theorem run_ag0 {Q : List Ag → Env → Prop} (k : Q [] δ) : Run (evA []) δ Q := Run.i k
theorem run_callB {g : List D → Option D} {as : List AM} {Q : D → Env → Prop} (h : Run (evA as) δ fun gs e => ∃ ds, shs gs = some ds ∧ ∃ c, g ds = some c ∧ Q c e) : Run (mCallB g as) δ Q :=
  run_bind (h.mono fun gs _ ⟨ds, h1, c, h2, h3⟩ => run_opt ⟨c, by rw [h1]; exact h2, h3⟩)
theorem run_isi {T : String} {Q : D → Env → Prop} (h : Run m δ fun d e => ∃ b, kitB (tyD d) T = some b ∧ Q (.bool b) e) : Run (mIsi T m) δ Q :=
  run_bind (h.mono fun d _ ⟨b, h1, h2⟩ => run_opt ⟨_, by rw [h1]; rfl, h2⟩)
theorem run_m1 {g : Str → List D → Option D} {mo : M D} {Q : D → Env → Prop} (h : Run mo δ fun d e1 => ∃ z, toS d = some z ∧ Run m e1 fun e e2 => ∃ c, g z [e] = some c ∧ Q c e2) : Run (mM1 g mo m) δ Q :=
  run_bind (h.mono fun _ _ ⟨z, h1, h2⟩ => run_bind (run_opt ⟨z, h1, run_bind (h2.mono fun _ _ h => run_opt h)⟩))
theorem run_shs {as : List AM} {Q : List D → Env → Prop} (h : Run (evA as) δ fun gs e => ∃ ds, shs gs = some ds ∧ ds.length ≤ sizeLine ∧ Q ds e) : Run (mShs as) δ Q :=
  run_bind (h.mono fun gs _ ⟨ds, h1, h2, h3⟩ => run_opt ⟨ds, by rw [h1]; simp [Option.filter, h2], h3⟩)
theorem run_tup {as : List AM} {Q : D → Env → Prop} (h : Run (evA as) δ fun gs e => ∃ ds, shs gs = some ds ∧ ds.length ≤ sizeLine ∧ Q (.tuple ds) e) : Run (mTup as) δ Q := run_bind (run_shs (h.mono fun _ _ ⟨ds, h1, h2, h3⟩ => ⟨ds, h1, h2, Run.i h3⟩))
theorem run_lst {as : List AM} {Q : D → Env → Prop} (h : Run (evA as) δ fun gs e => ∃ ds, shs gs = some ds ∧ ds.length ≤ sizeLine ∧ Q (.list ds) e) : Run (mLst as) δ Q := run_bind (run_shs (h.mono fun _ _ ⟨ds, h1, h2, h3⟩ => ⟨ds, h1, h2, Run.i h3⟩))
theorem run_ifb {b : Bool} {m1 m2 : M α} {Q : α → Env → Prop} (h1 : b = true → Run m1 δ Q) (h2 : b = false → Run m2 δ Q) : Run (if b = true then m1 else m2) δ Q := by
  cases b with
  | true => exact h1 rfl
  | false => exact h2 rfl
theorem run_andT {t1 t2 : M Bool} {Q : Bool → Env → Prop} (h : Run t1 δ fun b e => (b = true → Run t2 e Q) ∧ (b = false → Q false e)) : Run (mAndT t1 t2) δ Q := run_bind (h.mono fun b e h => run_ifb h.1 fun z => Run.i (h.2 z))
theorem run_orT {t1 t2 : M Bool} {Q : Bool → Env → Prop} (h : Run t1 δ fun b e => (b = true → Q true e) ∧ (b = false → Run t2 e Q)) : Run (mOrT t1 t2) δ Q := run_bind (h.mono fun b e h => run_ifb (fun z => Run.i (h.1 z)) h.2)
theorem run_notT {t : M Bool} {Q : Bool → Env → Prop} (h : Run t δ fun b e => Q (!b) e) : Run (mNotT t) δ Q := run_bind (h.mono fun _ _ h => Run.i h)
theorem run_andV {m1 m2 : M D} {Q : D → Env → Prop} (h : Run m1 δ fun d e => ∃ b, toB d = some b ∧ (b = true → Run m2 e Q) ∧ (b = false → Q (.bool false) e)) : Run (mAndV m1 m2) δ Q := run_bind (run_test (h.mono fun _ _ ⟨b, h1, h2, h3⟩ => ⟨b, h1, run_ifb h2 fun z => Run.i (h3 z)⟩))
theorem run_orV {m1 m2 : M D} {Q : D → Env → Prop} (h : Run m1 δ fun d e => ∃ b, toB d = some b ∧ (b = true → Q (.bool true) e) ∧ (b = false → Run m2 e Q)) : Run (mOrV m1 m2) δ Q := run_bind (run_test (h.mono fun _ _ ⟨b, h1, h2, h3⟩ => ⟨b, h1, run_ifb (fun z => Run.i (h2 z)) h3⟩))
theorem run_notV {Q : D → Env → Prop} (h : Run m δ fun d e => ∃ b, toB d = some b ∧ Q (.bool (!b)) e) : Run (mNotV m) δ Q := run_bind (run_test (h.mono fun _ _ ⟨b, h1, h2⟩ => ⟨b, h1, Run.i h2⟩))
theorem run_ifE {t : M Bool} {m1 m2 : M D} {Q : D → Env → Prop} (h : Run t δ fun b e => (b = true → Run m1 e Q) ∧ (b = false → Run m2 e Q)) : Run (mIfE t m1 m2) δ Q := run_bind (h.mono fun b e h => run_ifb h.1 h.2)
theorem run_neg {Q : D → Env → Prop} (h : Run m δ fun d e => ∃ c, dNeg d = some c ∧ Q c e) : Run (mNeg m) δ Q := run_bind (h.mono fun _ _ h => run_opt h)
theorem run_sl {ml mh : M (Option Int)} {Q : D → Env → Prop} (h : Run m δ fun d e => Run ml e fun l e1 => Run mh e1 fun u e2 => ∃ c, dSl d l u = some c ∧ Q c e2) : Run (mSl m ml mh) δ Q := run_bind (h.mono fun _ _ h => run_bind (h.mono fun _ _ h => run_bind (h.mono fun _ _ h => run_opt h)))
theorem run_part {Q : Option Int → Env → Prop} (h : Run m δ fun d e => ∃ c, toI d = some c ∧ Q c e) : Run (mPart m) δ Q := run_bind (h.mono fun _ _ h => run_opt h)
theorem run_noPart {Q : Option Int → Env → Prop} (h : Q none δ) : Run mNoPart δ Q := Run.i h
theorem run_nx {Q : Fl → Env → Prop} (h : Q .nx δ) : Run mNx δ Q := Run.i h
theorem run_seq {m1 m2 : M Fl} {Q : Fl → Env → Prop} (h : Run m1 δ fun fl e => (fl = .nx → Run m2 e Q) ∧ (fl ≠ .nx → Q fl e)) : Run (mSeq m1 m2) δ Q := by
  unfold Run at *
  unfold mSeq
  cases q : m1 δ with
  | ok fl e =>
    rw [q] at h
    cases fl with
    | nx => exact h.1 rfl
    | rt s => exact h.2 (by simp)
    | bk => exact h.2 (by simp)
    | ct => exact h.2 (by simp)
  | exc x e => rw [q] at h; exact h
  | bad => rw [q] at h; exact h
theorem run_expr {Q : Fl → Env → Prop} (h : Run m δ fun _ e => Q .nx e) : Run (mExpr m) δ Q := run_bind (h.mono fun _ _ h => Run.i h)
theorem run_ret {Q : Fl → Env → Prop} (h : Run m δ fun d e => Q (.rt (.sh d)) e) : Run (mRet m) δ Q := run_bind (h.mono fun _ _ h => Run.i h)
theorem run_ifS {t : M Bool} {m1 m2 : M Fl} {Q : Fl → Env → Prop} (h : Run t δ fun b e => (b = true → Run m1 e Q) ∧ (b = false → Run m2 e Q)) : Run (mIfS t m1 m2) δ Q := run_bind (h.mono fun b e h => run_ifb h.1 h.2)
theorem run_set {i : Nat} {Q : Fl → Env → Prop} (h : Run m δ fun d e => Q .nx (e.set i (.sh d))) : Run (mSet i m) δ Q := run_bind (h.mono fun _ _ h => Run.i h)
theorem run_setIx {k : Nat} {mi me : M D} {Q : Fl → Env → Prop} (h : Run me δ fun d e1 => ∃ xs, e1[k]? = some (Sl.ow xs) ∧ Run mi e1 fun e e2 => ∃ n, toI e = some (some n) ∧ ∃ ys, e2[k]? = some (Sl.ow ys) ∧ ∃ j, ixN ys.length n = some j ∧ Q .nx (e2.set k (.ow (ys.set j d)))) : Run (mSetIx k mi me) δ Q :=
  run_bind (h.mono fun _ _ ⟨xs, h1, h2⟩ => run_bind (run_own h1 (run_bind (h2.mono fun _ _ ⟨n, h3, ys, h4, j, h5, h6⟩ => run_bind (run_own h4 (run_bind (run_opt ⟨some n, h3, run_bind (run_opt ⟨j, h5, Run.i h6⟩)⟩)))))))
theorem run_app {k : Nat} {me : M D} {xs : List D} {Q : Fl → Env → Prop} (hx : δ[k]? = some (Sl.ow xs)) (h : Run me δ fun d e1 => ∃ ys, e1[k]? = some (Sl.ow ys) ∧ ys.length < sizeLine ∧ Q .nx (e1.set k (.ow (ys ++ [d])))) : Run (mApp k me) δ Q :=
  run_bind (run_own hx (run_bind (h.mono fun _ _ ⟨ys, h1, h2, h3⟩ => run_bind (run_own h1 (run_bind (run_opt ⟨(), if_pos h2, Run.i h3⟩))))))
theorem run_asg {g : D → M Unit} {Q : Fl → Env → Prop} (h : Run m δ fun d e => ∃ e', g d e = .ok () e' ∧ Q .nx e') : Run (mAsg g m) δ Q :=
  run_bind (h.mono fun _ _ ⟨e', h1, h2⟩ => by unfold Run; simp only [h1]; exact h2)
theorem run_iter {Q : List D → Env → Prop} (h : Run m δ fun d e => ∃ ds, dItems d = some ds ∧ Q ds e) : Run (mIter m) δ Q := run_bind (h.mono fun _ _ h => run_opt h)
theorem run_rng1 {Q : List D → Env → Prop} (h : Run m δ fun d e => ∃ ds, bRng1 d = some ds ∧ Q ds e) : Run (mRng1 m) δ Q := run_bind (h.mono fun _ _ h => run_opt h)
theorem run_rng2 {ma mb : M D} {Q : List D → Env → Prop} (h : Run ma δ fun d e1 => Run mb e1 fun e e2 => ∃ ds, bRng2 d e = some ds ∧ Q ds e2) : Run (mRng2 ma mb) δ Q := run_bind (h.mono fun _ _ h => run_bind (h.mono fun _ _ h => run_opt h))
theorem run_for {mi : M (List D)} {g : D → M Unit} {mb : M Fl} {Q : Fl → Env → Prop} (h : Run mi δ fun ds e => Run (forL g mb ds) e Q) : Run (mFor mi g mb) δ Q := run_bind h
theorem run_fr {m : M (List D)} {Q : D → Env → Prop} (h : Run m δ fun xs e => Q (.list xs) e) : Run (mFr m) δ Q := run_bind (h.mono fun _ _ h => Run.i h)
/-- a loop by what holds ahead of each turn -/
theorem run_forL {g : D → M Unit} {mb : M Fl} {Q : Fl → Env → Prop} (ds : List D) (I : Nat → Env → Prop) (h0 : I 0 δ)
    (hs : ∀ (i : Nat) (d : D) (e : Env), ds[i]? = some d → I i e → ∃ e1, g d e = .ok () e1 ∧ Run mb e1 fun fl e2 => (fl = .nx ∨ fl = .ct → I (i + 1) e2) ∧ (fl = .bk → Q .nx e2) ∧ (∀ s, fl = .rt s → Q (.rt s) e2))
    (hd : ∀ e, I ds.length e → Q .nx e) : Run (forL g mb ds) δ Q := by
  suffices H : ∀ (k i : Nat) (e : Env), i + k = ds.length → I i e → Run (forL g mb (ds.drop i)) e Q by
    have := H ds.length 0 δ (by omega) h0
    rwa [List.drop_zero] at this
  intro k
  induction k with
  | zero =>
    intro i e hi hI
    have e' : i = ds.length := by omega
    subst e'
    rw [List.drop_length]
    exact Run.i (hd e hI)
  | succ k ih =>
    intro i e hi hI
    have hlt : i < ds.length := by omega
    obtain ⟨e1, h1, h2⟩ := hs i ds[i] e (List.getElem?_eq_getElem hlt) hI
    rw [List.drop_eq_getElem_cons hlt]
    unfold Run forL
    rw [h1]
    unfold Run at h2
    dsimp only
    cases q : mb e1 with
    | ok fl e2 =>
      rw [q] at h2
      obtain ⟨a1, a2, a3⟩ := h2
      cases fl with
      | nx => have z := ih (i + 1) e2 (by omega) (a1 (.inl rfl)); unfold Run at z; exact z
      | ct => have z := ih (i + 1) e2 (by omega) (a1 (.inr rfl)); unfold Run at z; exact z
      | bk => exact a2 rfl
      | rt s => exact a3 s rfl
    | exc x e2 => rw [q] at h2; exact h2
    | bad => rw [q] at h2; exact h2
/-- a comprehension by what holds ahead of each turn: J i ys e, with the items made so far -/
theorem run_comp {mi : M (List D)} {vs : List Nat} {g : D → M Unit} {mt : M Bool} {me : M D} {Q : List D → Env → Prop}
    (h : Run mi δ fun ds e => (vs.all fun i => !(e.getD i .no).own) = true ∧ ds.length ≤ sizeLine ∧ Run (compL vs g mt me ds) (wipeE e vs) fun ys e2 => Q ys (backE e e2 vs)) : Run (mComp mi vs g mt me) δ Q :=
  run_bind (h.mono fun ds e ⟨h1, h2, h3⟩ => by
    unfold Run compE
    rw [if_pos ⟨h1, h2⟩]
    unfold Run at h3
    cases q : compL vs g mt me ds (wipeE e vs) with
    | ok ys e2 => rw [q] at h3; exact h3
    | exc x e2 => rw [q] at h3; exact h3
    | bad => rw [q] at h3; exact h3)
theorem run_compL {vs : List Nat} {g : D → M Unit} {mt : M Bool} {me : M D} (ds : List D) (J : Nat → List D → Env → Prop) {Q : List D → Env → Prop} (h0 : J 0 [] δ)
    (hs : ∀ (i : Nat) (d : D) (ys : List D) (e : Env), ds[i]? = some d → J i ys e → ∃ e1, g d e = .ok () e1 ∧ Run mt e1 fun b e2 => (b = true → Run me e2 fun y e3 => J (i + 1) (ys ++ [y]) (wipeE e3 vs)) ∧ (b = false → J (i + 1) ys (wipeE e2 vs)))
    (hd : ∀ ys e, J ds.length ys e → Q ys e) : Run (compL vs g mt me ds) δ Q := by
  suffices H : ∀ (k i : Nat) (ys : List D) (e : Env), i + k = ds.length → J i ys e → Run (compL vs g mt me (ds.drop i)) e fun zs e2 => Q (ys ++ zs) e2 by
    have := H ds.length 0 [] δ (by omega) h0
    rw [List.drop_zero] at this
    exact this.mono fun _ _ h => h
  intro k
  induction k with
  | zero =>
    intro i ys e hi hJ
    have e' : i = ds.length := by omega
    subst e'
    rw [List.drop_length]
    refine Run.i ?_
    show Q (ys ++ []) e
    rw [List.append_nil]
    exact hd ys e hJ
  | succ k ih =>
    intro i ys e hi hJ
    have hlt : i < ds.length := by omega
    obtain ⟨e1, h1, h2⟩ := hs i ds[i] ys e (List.getElem?_eq_getElem hlt) hJ
    rw [List.drop_eq_getElem_cons hlt]
    have z : Run (mBind mt (fun b => if b then mBind me (fun y => mBind (mWipe vs) fun _ => mBind (compL vs g mt me (ds.drop (i + 1))) fun ys => mPure (y :: ys)) else mBind (mWipe vs) fun _ => compL vs g mt me (ds.drop (i + 1)))) e1 fun zs e2 => Q (ys ++ zs) e2 := by
      refine run_bind (h2.mono fun b e2 h => run_ifb (fun hb => ?_) fun hb => ?_)
      · refine run_bind ((h.1 hb).mono fun y e3 hJ' => run_bind (Run.i ?_))
        show Run (mBind (compL vs g mt me (ds.drop (i + 1))) fun ys => mPure (y :: ys)) (wipeE e3 vs) _
        refine run_bind ((ih (i + 1) _ _ (by omega) hJ').mono fun zs e4 q => Run.i ?_)
        show Q (ys ++ (y :: zs)) e4
        rw [List.append_assoc] at q
        exact q
      · refine run_bind (Run.i ?_)
        show Run (compL vs g mt me (ds.drop (i + 1))) (wipeE e2 vs) _
        exact ih (i + 1) _ _ (by omega) (h.2 hb)
    unfold Run at z ⊢
    unfold compL
    rw [h1]
    exact z
/-- a def, by its body -/
theorem frun_fn {n N : Nat} {ps : List Nat} {mb : M Fl} {as : Env} {Q : Sl → Env → Prop} (h : Run mb (as ++ List.replicate (N - n) .no) fun fl e => (fl = .nx → Q (.sh .none) (outs ps n e)) ∧ (∀ s, fl = .rt s → Q s (outs ps n e)) ∧ fl ≠ .bk ∧ fl ≠ .ct) : FRun (fnF n N ps mb) as Q := by
  unfold FRun fnF
  unfold Run at h
  cases q : mb (as ++ List.replicate (N - n) .no) with
  | ok fl e =>
    rw [q] at h
    obtain ⟨h1, h2, h3, h4⟩ := h
    cases fl with
    | nx => exact h1 rfl
    | rt s => exact h2 s rfl
    | bk => exact (h3 rfl).elim
    | ct => exact (h4 rfl).elim
  | exc x e => rw [q] at h; exact h
  | bad => rw [q] at h; exact h
end
end Dn
namespace Dn
open PySem PySem.Spec PyProof.Rows L2 TL
@[reducible] def isStr : D → Bool
  | .str _ => true
  | _ => false
section
variable {Q : D → Prop} {i j : Int} {x y : Str} {xs ys : List D} {d e : D}
theorem bx_add_int (h : Q (.int (i + j))) : ∃ c, dAdd (.int i) (.int j) = some c ∧ Q c := ⟨_, rfl, h⟩
theorem bx_add_str (hl : x.length + y.length ≤ sizeLine) (h : Q (.str (x ++ y))) : ∃ c, dAdd (.str x) (.str y) = some c ∧ Q c := ⟨_, if_pos hl, h⟩
theorem bx_add_tup (hl : xs.length + ys.length ≤ sizeLine) (h : Q (.tuple (xs ++ ys))) : ∃ c, dAdd (.tuple xs) (.tuple ys) = some c ∧ Q c := ⟨_, if_pos hl, h⟩
theorem bx_sub (h : Q (.int (i - j))) : ∃ c, dSub (.int i) (.int j) = some c ∧ Q c := ⟨_, rfl, h⟩
theorem bx_mul (hc : (-(2 ^ 64) < i ∧ i < 2 ^ 64) ∨ (-(2 ^ 64) < j ∧ j < 2 ^ 64)) (h : Q (.int (i * j))) : ∃ c, dMul (.int i) (.int j) = some c ∧ Q c := ⟨_, if_pos hc, h⟩
theorem bx_rep (hc : -1000000 ≤ j ∧ j ≤ 1000000 ∧ x.length ≤ 16) (h : Q (.str (strRep x j))) : ∃ c, dMul (.str x) (.int j) = some c ∧ Q c := ⟨_, if_pos hc, h⟩
theorem bx_mod (hc : 0 < j) (h : Q (.int (i % j))) : ∃ c, dMod (.int i) (.int j) = some c ∧ Q c := ⟨_, if_pos (decide_eq_true hc), h⟩
theorem bx_div (hc : 0 < j ∧ j < 4611686018427387904) (h : Q (.int (i / j))) : ∃ c, dDiv (.int i) (.int j) = some c ∧ Q c := ⟨_, if_pos (decide_eq_true hc), h⟩
theorem bx_pow (hc : 0 ≤ j ∧ j ≤ 1000000 ∧ i.natAbs < 2 ^ 64) (h : Q (.int (i ^ j.toNat))) : ∃ c, dPow (.int i) (.int j) = some c ∧ Q c := ⟨_, if_pos (decide_eq_true hc), h⟩
theorem bx_eq_str (h : Q (.bool (decide (x = y)))) : ∃ c, dEq (.str x) (.str y) = some c ∧ Q c := ⟨_, rfl, h⟩
theorem bx_ne_str (h : Q (.bool (!decide (x = y)))) : ∃ c, dNe (.str x) (.str y) = some c ∧ Q c := ⟨_, rfl, h⟩
theorem dEqB_of (hn : isStr d = false ∨ isStr e = false) (h1 : SeqAt.shaped d = true) (h2 : SeqAt.shaped e = true) : dEqB d e = some (PyData.eqv d e) := by
  have z : (if SeqAt.shaped d = true ∧ SeqAt.shaped e = true then some (PyData.eqv d e) else none) = some (PyData.eqv d e) := if_pos ⟨h1, h2⟩
  cases d <;> first | exact z | (cases e <;> first | exact z | (rcases hn with hn | hn <;> cases hn))
theorem bx_eq (hn : isStr d = false ∨ isStr e = false) (h1 : SeqAt.shaped d = true) (h2 : SeqAt.shaped e = true) (h : Q (.bool (PyData.eqv d e))) : ∃ c, dEq d e = some c ∧ Q c := ⟨_, by unfold dEq; rw [dEqB_of hn h1 h2]; rfl, h⟩
theorem bx_ne (hn : isStr d = false ∨ isStr e = false) (h1 : SeqAt.shaped d = true) (h2 : SeqAt.shaped e = true) (h : Q (.bool (!PyData.eqv d e))) : ∃ c, dNe d e = some c ∧ Q c := ⟨_, by unfold dNe; rw [dEqB_of hn h1 h2]; rfl, h⟩
theorem eqv_int : PyData.eqv (.int i) (.int j) = decide (i = j) := by by_cases h : i = j <;> simp [PyData.eqv, h]
theorem eqv_bl {a b : Bool} : PyData.eqv (.bool a) (.bool b) = decide (a = b) := by cases a <;> cases b <;> rfl
theorem bx_eq_int (h : Q (.bool (decide (i = j)))) : ∃ c, dEq (.int i) (.int j) = some c ∧ Q c := bx_eq (.inl rfl) rfl rfl (by rw [eqv_int]; exact h)
theorem bx_eq_bl {a b : Bool} (h : Q (.bool (decide (a = b)))) : ∃ c, dEq (.bool a) (.bool b) = some c ∧ Q c := bx_eq (.inl rfl) rfl rfl (by rw [eqv_bl]; exact h)
theorem bx_ne_int (h : Q (.bool (!decide (i = j)))) : ∃ c, dNe (.int i) (.int j) = some c ∧ Q c := bx_ne (.inl rfl) rfl rfl (by rw [eqv_int]; exact h)
theorem bx_ne_bl {a b : Bool} (h : Q (.bool (!decide (a = b)))) : ∃ c, dNe (.bool a) (.bool b) = some c ∧ Q c := bx_ne (.inl rfl) rfl rfl (by rw [eqv_bl]; exact h)
theorem bx_lt (h : Q (.bool (decide (i < j)))) : ∃ c, dLt (.int i) (.int j) = some c ∧ Q c := ⟨_, rfl, h⟩
theorem bx_le (h : Q (.bool (decide (i ≤ j)))) : ∃ c, dLe (.int i) (.int j) = some c ∧ Q c := ⟨_, rfl, h⟩
theorem bx_gt (h : Q (.bool (decide (j < i)))) : ∃ c, dGt (.int i) (.int j) = some c ∧ Q c := ⟨_, rfl, h⟩
theorem bx_ge (h : Q (.bool (decide (j ≤ i)))) : ∃ c, dGe (.int i) (.int j) = some c ∧ Q c := ⟨_, rfl, h⟩
theorem bx_in_str (h : Q (.bool (strIn x y))) : ∃ c, dIn (.str x) (.str y) = some c ∧ Q c := ⟨_, rfl, h⟩
theorem bx_nin_str (h : Q (.bool (!strIn x y))) : ∃ c, dNotIn (.str x) (.str y) = some c ∧ Q c := ⟨_, rfl, h⟩
theorem bx_is_bl {a b : Bool} (h : Q (.bool (decide (a = b)))) : ∃ c, dIs (.bool a) (.bool b) = some c ∧ Q c := ⟨_, rfl, h⟩
theorem bx_isNot_bl {a b : Bool} (h : Q (.bool (!decide (a = b)))) : ∃ c, dIsNot (.bool a) (.bool b) = some c ∧ Q c := ⟨_, rfl, h⟩
theorem bx_is_non (h : Q (.bool (isN d))) : ∃ c, dIs d .none = some c ∧ Q c := ⟨.bool (isN d), by unfold dIs; cases d <;> rfl, h⟩
theorem bx_isNot_non (h : Q (.bool (!isN d))) : ∃ c, dIsNot d .none = some c ∧ Q c := ⟨.bool (!isN d), by unfold dIsNot; cases d <;> rfl, h⟩
theorem bx_ix_lst (h1 : atI xs i = some d) (h : Q d) : ∃ c, dIx (.list xs) (.int i) = some c ∧ Q c := ⟨d, h1, h⟩
theorem bx_ix_tup (h1 : atI xs i = some d) (h : Q d) : ∃ c, dIx (.tuple xs) (.int i) = some c ∧ Q c := ⟨d, h1, h⟩
theorem bx_sl_str {lo hi : Option Int} (hl : x.length ≤ sizeLine) (h : Q (.str (cutS x lo hi))) : ∃ c, dSl (.str x) lo hi = some c ∧ Q c := ⟨_, if_pos hl, h⟩
theorem bx_sl_tup {lo hi : Option Int} (h : Q (.tuple (cutD xs lo hi))) : ∃ c, dSl (.tuple xs) lo hi = some c ∧ Q c := ⟨_, rfl, h⟩
theorem bx_sl_lst {lo hi : Option Int} (h : Q (.list (cutD xs lo hi))) : ∃ c, dSl (.list xs) lo hi = some c ∧ Q c := ⟨_, rfl, h⟩
theorem bx_neg (h : Q (.int (-i))) : ∃ c, dNeg (.int i) = some c ∧ Q c := ⟨_, rfl, h⟩
theorem bx_len_str (hl : x.length ≤ sizeLine) (h : Q (.int x.length)) : ∃ c, bLen [.str x] = some c ∧ Q c := ⟨_, if_pos hl, h⟩
theorem bx_len_lst (h : Q (.int xs.length)) : ∃ c, bLen [.list xs] = some c ∧ Q c := ⟨_, rfl, h⟩
theorem bx_len_tup (h : Q (.int xs.length)) : ∃ c, bLen [.tuple xs] = some c ∧ Q c := ⟨_, rfl, h⟩
theorem bx_int_int (h : Q (.int i)) : ∃ c, bInt [.int i] = some c ∧ Q c := ⟨_, rfl, h⟩
theorem bx_int_bl {b : Bool} (h : Q (.int (if b then 1 else 0))) : ∃ c, bInt [.bool b] = some c ∧ Q c := ⟨_, rfl, h⟩
theorem bx_II {f : Int → Int → Int} (h : Q (.int (f i j))) : ∃ c, bII f [.int i, .int j] = some c ∧ Q c := ⟨_, rfl, h⟩
theorem bx_tuple_lst (h : Q (.tuple xs)) : ∃ c, bTuple [.list xs] = some c ∧ Q c := ⟨_, rfl, h⟩
theorem bx_tuple_tup (h : Q (.tuple xs)) : ∃ c, bTuple [.tuple xs] = some c ∧ Q c := ⟨_, rfl, h⟩
theorem bx_list_lst (h : Q (.list xs)) : ∃ c, bList [.list xs] = some c ∧ Q c := ⟨_, rfl, h⟩
theorem bx_list_tup (h : Q (.list xs)) : ∃ c, bList [.tuple xs] = some c ∧ Q c := ⟨_, rfl, h⟩
theorem toSs_map : ∀ bs : List Str, toSs (bs.map PyData.str) = some bs
  | [] => rfl
  | b :: r => by rw [List.map_cons]; unfold toSs; rw [toSs_map r]; rfl
theorem bx_rng1 {R : List D → Prop} (h1 : inLine i = true) (h : R (rngD 0 i.toNat)) : ∃ ds, bRng1 (.int i) = some ds ∧ R ds := ⟨_, if_pos h1, h⟩
theorem bx_it_lst {R : List D → Prop} (h : R xs) : ∃ ds, dItems (.list xs) = some ds ∧ R ds := ⟨_, rfl, h⟩
theorem bx_it_tup {R : List D → Prop} (h : R xs) : ∃ ds, dItems (.tuple xs) = some ds ∧ R ds := ⟨_, rfl, h⟩
theorem bx_it_str {R : List D → Prop} (h : R (sgnD x)) : ∃ ds, dItems (.str x) = some ds ∧ R ds := ⟨_, rfl, h⟩
end
theorem inLine_of {i : Int} (h : -(2 ^ 62) ≤ i ∧ i < 2 ^ 62) : inLine i = true := decide_eq_true h
theorem line_of {n : Nat} (h : n ≤ 16777216) : n ≤ sizeLine := h
theorem kb_ss : kitB "str" "str" = some true := by decide +kernel
theorem kb_is : kitB "int" "str" = some false := by decide +kernel
theorem kb_bs : kitB "bool" "str" = some false := by decide +kernel
theorem kb_ns : kitB "NoneType" "str" = some false := by decide +kernel
theorem kb_ls : kitB "list" "str" = some false := by decide +kernel
theorem kb_ts : kitB "tuple" "str" = some false := by decide +kernel
theorem kb_ii : kitB "int" "int" = some true := by decide +kernel
theorem kb_bi : kitB "bool" "int" = some true := by decide +kernel
theorem kb_si : kitB "str" "int" = some false := by decide +kernel
theorem kb_ni : kitB "NoneType" "int" = some false := by decide +kernel
theorem kb_li : kitB "list" "int" = some false := by decide +kernel
theorem kb_ti : kitB "tuple" "int" = some false := by decide +kernel
theorem kb_bb : kitB "bool" "bool" = some true := by decide +kernel
theorem kb_ib : kitB "int" "bool" = some false := by decide +kernel
theorem kb_sb : kitB "str" "bool" = some false := by decide +kernel
theorem kb_nb : kitB "NoneType" "bool" = some false := by decide +kernel
theorem kb_lb : kitB "list" "bool" = some false := by decide +kernel
theorem kb_tb : kitB "tuple" "bool" = some false := by decide +kernel
theorem kb_tt : kitB "tuple" "tuple" = some true := by decide +kernel
theorem kb_it : kitB "int" "tuple" = some false := by decide +kernel
theorem kb_bt : kitB "bool" "tuple" = some false := by decide +kernel
theorem kb_st : kitB "str" "tuple" = some false := by decide +kernel
theorem kb_nt : kitB "NoneType" "tuple" = some false := by decide +kernel
theorem kb_lt : kitB "list" "tuple" = some false := by decide +kernel
@[reducible] def isBool : D → Bool
  | .bool _ => true
  | _ => false
@[reducible] def isInt : D → Bool
  | .int _ => true
  | .bool _ => true
  | _ => false
@[reducible] def isTup : D → Bool
  | .tuple _ => true
  | _ => false
def noDict : D → Bool
  | .dict _ => false
  | _ => true
section
variable {R : Bool → Prop} {d : D}
theorem bx_isi_str (hd : noDict d = true) (h : R (isStr d)) : ∃ b, kitB (tyD d) "str" = some b ∧ R b := by
  cases d <;> first | exact ⟨_, kb_ss, h⟩ | exact ⟨_, kb_is, h⟩ | exact ⟨_, kb_bs, h⟩ | exact ⟨_, kb_ns, h⟩ | exact ⟨_, kb_ls, h⟩ | exact ⟨_, kb_ts, h⟩ | cases hd
theorem bx_isi_bool (hd : noDict d = true) (h : R (isBool d)) : ∃ b, kitB (tyD d) "bool" = some b ∧ R b := by
  cases d <;> first | exact ⟨_, kb_bb, h⟩ | exact ⟨_, kb_ib, h⟩ | exact ⟨_, kb_sb, h⟩ | exact ⟨_, kb_nb, h⟩ | exact ⟨_, kb_lb, h⟩ | exact ⟨_, kb_tb, h⟩ | cases hd
theorem bx_isi_int (hd : noDict d = true) (h : R (isInt d)) : ∃ b, kitB (tyD d) "int" = some b ∧ R b := by
  cases d <;> first | exact ⟨_, kb_ii, h⟩ | exact ⟨_, kb_bi, h⟩ | exact ⟨_, kb_si, h⟩ | exact ⟨_, kb_ni, h⟩ | exact ⟨_, kb_li, h⟩ | exact ⟨_, kb_ti, h⟩ | cases hd
theorem bx_isi_tup (hd : noDict d = true) (h : R (isTup d)) : ∃ b, kitB (tyD d) "tuple" = some b ∧ R b := by
  cases d <;> first | exact ⟨_, kb_tt, h⟩ | exact ⟨_, kb_it, h⟩ | exact ⟨_, kb_bt, h⟩ | exact ⟨_, kb_st, h⟩ | exact ⟨_, kb_nt, h⟩ | exact ⟨_, kb_lt, h⟩ | cases hd
end
section
variable {A B : Prop} {Q : Sl → Env → Prop} {R : Fl → Env → Prop} {s : Sl} {ps : List Nat} {n : Nat} {e : Env} {p : Prop} {m : M Fl}
theorem seq_nx (h : A) : (Fl.nx = .nx → A) ∧ (Fl.nx ≠ .nx → B) := ⟨fun _ => h, fun z => absurd rfl z⟩
theorem seq_rt (h : B) : (Fl.rt s = .nx → A) ∧ (Fl.rt s ≠ .nx → B) := ⟨fun z => (nomatch z), fun _ => h⟩
theorem fin_rt (h : Q s (outs ps n e)) : (Fl.rt s = .nx → A) ∧ (∀ s', Fl.rt s = .rt s' → Q s' (outs ps n e)) ∧ Fl.rt s ≠ .bk ∧ Fl.rt s ≠ .ct := ⟨fun z => (nomatch z), fun s' z => by cases z; exact h, by simp, by simp⟩
theorem fin_nx (h : A) : (Fl.nx = .nx → A) ∧ (∀ s', Fl.nx = .rt s' → Q s' (outs ps n e)) ∧ Fl.nx ≠ .bk ∧ Fl.nx ≠ .ct := ⟨fun _ => h, fun s' z => (nomatch z), by simp, by simp⟩
theorem turn_nx {C : Sl → Prop} (h : A) : (Fl.nx = .nx ∨ Fl.nx = .ct → A) ∧ (Fl.nx = .bk → B) ∧ (∀ s', Fl.nx = .rt s' → C s') := ⟨fun _ => h, fun z => (nomatch z), fun s' z => (nomatch z)⟩
theorem turn_ct {C : Sl → Prop} (h : A) : (Fl.ct = .nx ∨ Fl.ct = .ct → A) ∧ (Fl.ct = .bk → B) ∧ (∀ s', Fl.ct = .rt s' → C s') := ⟨fun _ => h, fun z => (nomatch z), fun s' z => (nomatch z)⟩
theorem turn_bk {C : Sl → Prop} (h : B) : (Fl.bk = .nx ∨ Fl.bk = .ct → A) ∧ (Fl.bk = .bk → B) ∧ (∀ s', Fl.bk = .rt s' → C s') := ⟨fun z => by simp at z, fun _ => h, fun s' z => (nomatch z)⟩
theorem turn_rt {C : Sl → Prop} (h : C s) : (Fl.rt s = .nx ∨ Fl.rt s = .ct → A) ∧ (Fl.rt s = .bk → B) ∧ (∀ s', Fl.rt s = .rt s' → C s') := ⟨fun z => by simp at z, fun z => (nomatch z), fun s' z => by cases z; exact h⟩
theorem two_T (h : A) : (true = true → A) ∧ (true = false → B) := ⟨fun _ => h, fun z => (nomatch z)⟩
theorem two_F (h : B) : (false = true → A) ∧ (false = false → B) := ⟨fun z => (nomatch z), fun _ => h⟩
theorem two_dec [Decidable p] (h1 : p → A) (h2 : ¬ p → B) : (decide p = true → A) ∧ (decide p = false → B) := ⟨fun z => h1 (of_decide_eq_true z), fun z => h2 (of_decide_eq_false z)⟩
theorem two_dT {α : Type} {a : α} [Decidable (a = a)] (h : A) : (decide (a = a) = true → A) ∧ (decide (a = a) = false → B) := two_dec (fun _ => h) fun z => absurd rfl z
theorem two_not {b : Bool} (h : (b = true → B) ∧ (b = false → A)) : ((!b) = true → A) ∧ ((!b) = false → B) := ⟨fun z => h.2 (by simpa using z), fun z => h.1 (by simpa using z)⟩
theorem toB_bl {b : Bool} {R : Bool → Prop} (h : R b) : ∃ k, toB (.bool b) = some k ∧ R k := ⟨b, rfl, h⟩
end
theorem filter_take_succ {α : Type} (p : α → Bool) (ds : List α) (i : Nat) (d : α) (h : ds[i]? = some d) : (ds.take (i + 1)).filter p = (ds.take i).filter p ++ (if p d then [d] else []) := by
  rw [List.take_add_one, h, List.filter_append]
  cases hp : p d <;> simp [hp]
theorem run_yes {e : Env} {Q : Bool → Env → Prop} (h : Q true e) : Run mYes e Q := Run.i h
theorem run_forL_nil {δ : Env} {g : D → M Unit} {mb : M Fl} {Q : Fl → Env → Prop} (h : Q .nx δ) : Run (forL g mb []) δ Q := Run.i h
theorem flat_int {i : Int} {P : Prop} (h : P) : flatD (.int i) = true ∧ P := ⟨rfl, h⟩
theorem flat_str {x : Str} {P : Prop} (h : P) : flatD (.str x) = true ∧ P := ⟨rfl, h⟩
theorem flat_bl {b : Bool} {P : Prop} (h : P) : flatD (.bool b) = true ∧ P := ⟨rfl, h⟩
end Dn
namespace Dn
open PySem PySem.Spec PyProof.Rows L2 TL
theorem tl_cutS (x : Str) (lo hi : Option Int) : tl (cutS x lo hi) = ((tl x).drop (HT.sIx x.length 0 lo)).take (HT.sIx x.length x.length hi - HT.sIx x.length 0 lo) := by
  unfold cutS
  simp [tl]
/-- texts of up to n plain signs -/
def Ok (n : Nat) (x : Str) : Prop := x.length ≤ n ∧ ∀ c ∈ tl x, c < 128
theorem Ok.line {n : Nat} {x : Str} (h : Ok n x) (hn : n ≤ 16777216 := by decide) : x.length ≤ sizeLine := Nat.le_trans h.1 hn
theorem Ok.mono {n m : Nat} {x : Str} (h : Ok n x) (k : n ≤ m) : Ok m x := ⟨Nat.le_trans h.1 k, h.2⟩
theorem len_append (x y : Str) : (x ++ y).length = x.length + y.length := by rw [len_tl, len_tl, len_tl, tl_append, List.length_append]
theorem Ok.append {n m : Nat} {x y : Str} (h : Ok n x) (k : Ok m y) : Ok (n + m) (x ++ y) := ⟨by rw [len_append]; have := h.1; have := k.1; omega, fun c hc => by
  rw [tl_append] at hc
  exact (List.mem_append.mp hc).elim (h.2 c) (k.2 c)⟩
theorem cutS_mem {x : Str} {lo hi : Option Int} {c : Nat} (h : c ∈ tl (cutS x lo hi)) : c ∈ tl x := by
  rw [tl_cutS] at h
  exact List.mem_of_mem_drop (List.mem_of_mem_take h)
theorem cutS_len {x : Str} {lo hi : Option Int} : (cutS x lo hi).length ≤ x.length := by
  rw [len_tl, tl_cutS, List.length_take, List.length_drop, ← len_tl]
  omega
theorem Ok.cut {n : Nat} {x : Str} (h : Ok n x) (lo hi : Option Int) : Ok n (cutS x lo hi) := ⟨Nat.le_trans cutS_len h.1, fun c hc => h.2 c (cutS_mem hc)⟩
theorem Ok.lit (x : Str) (n : Nat) (h : (decide (x.length ≤ n) && (tl x).all (· < 128)) = true) : Ok n x := by
  rw [Bool.and_eq_true] at h
  exact ⟨of_decide_eq_true h.1, fun c hc => by simpa using List.all_eq_true.mp h.2 c hc⟩
theorem Ok.one {c : Nat} (h : c < 128) : Ok 1 ⟨#[c]⟩ := ⟨Nat.le_refl 1, fun d hd => by simp [tl] at hd; omega⟩
theorem Ok.strOk {n : Nat} {x : Str} (h : Ok n x) : PyData.strOk x = true := by
  unfold PyData.strOk
  rw [← Array.all_toList]
  rw [List.all_eq_true]
  intro c hc
  have := h.2 c hc
  first
    | (simp; omega)
    | trace_state
def St (c : Nat) (st : List D) : Prop := ∃ a b k : Int, st = [.int a, .int b, .int k] ∧ 0 ≤ a ∧ 0 ≤ b ∧ b < 2147483647 ∧ 0 ≤ k ∧ k ≤ c
theorem St.mono {c c' : Nat} {st : List D} (h : St c st) (k : c ≤ c') : St c' st := by
  obtain ⟨a, b, k', e, h1, h2, h3, h4, h5⟩ := h
  exact ⟨a, b, k', e, h1, h2, h3, h4, by omega⟩
/-- an index within -/
theorem atI_lt {α : Type} {xs : List α} {i : Int} (h0 : 0 ≤ i) (h1 : i < xs.length) : ∃ x, atI xs i = some x ∧ x ∈ xs := by
  have hlt : i.toNat < xs.length := by omega
  refine ⟨xs[i.toNat], ?_, List.getElem_mem hlt⟩
  unfold atI ixN
  rw [if_pos h0, if_pos h1]
  simp [hlt]
theorem bx_ix_in {xs : List D} {i : Int} {Q : D → Prop} (h0 : 0 ≤ i) (h1 : i < xs.length) (h : ∀ d ∈ xs, Q d) : ∃ c, dIx (.list xs) (.int i) = some c ∧ Q c := by
  obtain ⟨d, e, m⟩ := atI_lt h0 h1
  exact bx_ix_lst e (h d m)
end Dn
namespace Dn
open PySem PySem.Spec PyProof.Rows L2 TL
def Lt (s : Str) : Prop := ∃ c, s = ⟨#[c]⟩ ∧ 97 ≤ c ∧ c ≤ 122
theorem Lt.ok {s : Str} (h : Lt s) : Ok 1 s := by
  obtain ⟨c, rfl, h1, h2⟩ := h
  exact Ok.one (by omega)
def Nm (x : Str) : Prop := 2 ≤ x.length ∧ x.length ≤ 8 ∧ (∀ c ∈ tl x, 97 ≤ c ∧ c ≤ 122) ∧ (tl x).head? = some 113
theorem Nm.ok {x : Str} (h : Nm x) : Ok 8 x := ⟨h.2.1, fun c hc => by have := h.2.2.1 c hc; omega⟩
theorem rngD_at {a : Int} {n i : Nat} {d : D} (h : (rngD a n)[i]? = some d) : d = .int (a + i) ∧ i < n := by
  unfold rngD at h
  rw [List.getElem?_map] at h
  cases q : (List.range n)[i]? with
  | none => rw [q] at h; cases h
  | some k =>
    rw [q] at h
    have hk := List.getElem?_range (n := n) (i := i)
    by_cases hi : i < n
    · rw [List.getElem?_range hi] at q
      cases q
      cases h
      exact ⟨rfl, hi⟩
    · rw [List.getElem?_eq_none (by simp; omega)] at q
      cases q
theorem rngD_length {a : Int} {n : Nat} : (rngD a n).length = n := by simp [rngD]
end Dn
namespace Ds
open PySem PySem.Spec PyProof.Rows L2 Dn
inductive All2 {α β : Type} (R : α → β → Prop) : List α → List β → Prop where
  | nil : All2 R [] []
  | cons {a : α} {b : β} {as : List α} {bs : List β} : R a b → All2 R as bs → All2 R (a :: as) (b :: bs)
namespace All2
variable {α β : Type} {R S : α → β → Prop}
theorem imp (k : ∀ a b, R a b → S a b) : ∀ {as : List α} {bs : List β}, All2 R as bs → All2 S as bs
  | _, _, .nil => .nil
  | _, _, .cons h t => .cons (k _ _ h) (imp k t)
theorem length : ∀ {as : List α} {bs : List β}, All2 R as bs → as.length = bs.length
  | _, _, .nil => rfl
  | _, _, .cons _ t => by rw [List.length_cons, List.length_cons, length t]
theorem get : ∀ {as : List α} {bs : List β} {i : Nat} {b : β}, All2 R as bs → bs[i]? = some b → ∃ a, as[i]? = some a ∧ R a b
  | _, _, i, d, .nil, e => by simp at e
  | _, _, 0, d, .cons h _, e => by simp at e; subst e; exact ⟨_, rfl, h⟩
  | _, _, i + 1, d, .cons _ t, e => by
    obtain ⟨v, h1, h2⟩ := get (i := i) t (by simpa using e)
    exact ⟨v, by simpa using h1, h2⟩
theorem append : ∀ {as as' : List α} {bs bs' : List β}, All2 R as bs → All2 R as' bs' → All2 R (as ++ as') (bs ++ bs')
  | _, _, _, _, .nil, s => s
  | _, _, _, _, .cons h t, s => .cons h (append t s)
theorem snoc {as : List α} {bs : List β} {a : α} {b : β} (h : All2 R as bs) (r : R a b) : All2 R (as ++ [a]) (bs ++ [b]) := h.append (.cons r .nil)
theorem set {a : α} {b : β} (r : R a b) : ∀ {as : List α} {bs : List β} (i : Nat), All2 R as bs → All2 R (as.set i a) (bs.set i b)
  | _, _, _, .nil => .nil
  | _, _, 0, .cons _ t => .cons r t
  | _, _, i + 1, .cons h t => .cons h (set r i t)
theorem take : ∀ {as : List α} {bs : List β} (n : Nat), All2 R as bs → All2 R (as.take n) (bs.take n)
  | _, _, 0, _ => .nil
  | _, _, _ + 1, .nil => .nil
  | _, _, n + 1, .cons h t => .cons h (take n t)
theorem drop : ∀ {as : List α} {bs : List β} (n : Nat), All2 R as bs → All2 R (as.drop n) (bs.drop n)
  | _, _, 0, h => h
  | _, _, _ + 1, .nil => .nil
  | _, _, n + 1, .cons _ t => drop n t
theorem imp_mem : ∀ {as : List α} {bs : List β}, All2 R as bs → (∀ a b, b ∈ bs → R a b → S a b) → All2 S as bs
  | _, _, .nil, _ => .nil
  | _, _, .cons h t, k => .cons (k _ _ List.mem_cons_self h) (imp_mem t fun a b m => k a b (List.mem_cons_of_mem _ m))
end All2
theorem nodup_at {α : Type} {a : α} : ∀ {l : List α} {i j : Nat}, l.Nodup → l[i]? = some a → l[j]? = some a → i = j
  | [], i, j, _, h, _ => by simp at h
  | b :: l, 0, 0, _, _, _ => rfl
  | b :: l, 0, j + 1, n, h, h' => by
    have e : b = a := by simpa using h
    subst e
    exact absurd (List.mem_of_getElem? (l := l) (i := j) (by simpa using h')) (List.nodup_cons.mp n).1
  | b :: l, i + 1, 0, n, h, h' => by
    have e : b = a := by simpa using h'
    subst e
    exact absurd (List.mem_of_getElem? (l := l) (i := i) (by simpa using h)) (List.nodup_cons.mp n).1
  | b :: l, i + 1, j + 1, n, h, h' => by
    rw [nodup_at (List.nodup_cons.mp n).2 (i := i) (j := j) (by simpa using h) (by simpa using h')]
/-- what a name, an item, a field holds: nothing said, data, a thing of the store -/
inductive Cl where
  | no
  | sh (d : D)
  | lo (l : Nat)
/-- things that change -/
inductive Ob where
  | gone
  | lst (xs : List Cl)
  | dk (kvs : List (Key × Cl))
  | dt (kvs : List (List Key × Cl))
  | ft (kvs : List (List Key × Cl))
  | ins (c : Str) (fs : List (Str × Cl))
def Ob.live : Ob → Bool
  | .gone => false
  | .ft _ => false
  | _ => true
structure Sx where
  e : List Cl
  s : List Ob
inductive Res (α : Type) where
  | ok (a : α) (x : Sx)
  | exc (y : Exn) (x : Sx)
  | bad
abbrev M (α : Type) := Sx → Res α
def mPure {α : Type} (a : α) : M α := fun x => .ok a x
def mBind {α β : Type} (m : M α) (f : α → M β) : M β := fun x => match m x with
  | .ok a x' => f a x'
  | .exc y x' => .exc y x'
  | .bad => .bad
def mOpt {α : Type} (o : Option α) : M α := fun x => match o with
  | some a => .ok a x
  | none => .bad
/-- where the store's things lie, and what never changes -/
structure Gh where
  r : List Addr
  h : Hp
structure Le (g g' : Gh) : Prop where
  r : ∀ (l : Nat) (a : Addr), g.r[l]? = some a → g'.r[l]? = some a
  h : Ex g.h g'.h
theorem Le.refl (g : Gh) : Le g g := ⟨fun _ _ h => h, Ex.refl _⟩
theorem Le.trans {g g1 g2 : Gh} (a : Le g g1) (b : Le g1 g2) : Le g g2 := ⟨fun l x h => b.r l x (a.r l x h), a.h.trans b.h⟩
inductive CR (K : Frag) (g : Gh) : V → Cl → Prop where
  | sh {v : V} {d : D} : Rp K g.h v d → CR K g v (.sh d)
  | lo {l : Nat} {a : Addr} : g.r[l]? = some a → CR K g (.ref a) (.lo l)
def clsA (K : Frag) (c : Str) : Option Addr := match PySem.W.nsIn K mainGlobals c with
  | some (some (.ref a)) => some a
  | _ => none
inductive ObR (K : Frag) (g : Gh) : Ob → HO → Prop where
  | lst {xs : List Cl} {vs : List V} : All2 (CR K g) vs xs → ObR K g (.lst xs) (.lst vs)
  | dk {xs : List (Key × Cl)} {vs : List (Key × V)} : All2 (fun p q => p.1 = q.1 ∧ CR K g p.2 q.2) vs xs → ObR K g (.dk xs) (.dK vs)
  | dt {xs : List (List Key × Cl)} {vs : List (List Key × V)} : All2 (fun p q => p.1 = q.1 ∧ CR K g p.2 q.2) vs xs → ObR K g (.dt xs) (.dT vs)
  | ins {c : Str} {C dx : Addr} {xs : List (Str × Cl)} {vs : List (Str × V)} : clsA K c = some C → All2 (fun p q => p.1 = q.1 ∧ CR K g p.2 q.2) vs xs → ObR K g (.ins c xs) (.ins C dx vs)
section
variable {K : Frag} {g g' : Gh}
theorem CR.le (e : Le g g') : ∀ {v : V} {c : Cl}, CR K g v c → CR K g' v c
  | _, _, .sh h => .sh (h.ex e.h)
  | _, _, .lo h => .lo (e.r _ _ h)
theorem CRs.le (e : Le g g') {vs : List V} {cs : List Cl} (h : All2 (CR K g) vs cs) : All2 (CR K g') vs cs := h.imp fun _ _ => CR.le e
theorem ObR.le (e : Le g g') : ∀ {o : Ob} {u : HO}, ObR K g o u → ObR K g' o u
  | _, _, .lst h => .lst (h.imp fun _ _ => CR.le e)
  | _, _, .dk h => .dk (h.imp fun _ _ h => ⟨h.1, h.2.le e⟩)
  | _, _, .dt h => .dt (h.imp fun _ _ h => ⟨h.1, h.2.le e⟩)
  | _, _, .ins c h => .ins c (h.imp fun _ _ h => ⟨h.1, h.2.le e⟩)
end
/-- slots, store and heap agree; G: what others hold -/
structure RE (K : Frag) (G : Hp) (g : Gh) (H : Hp) (σ : L2.St) (δ : Sx) : Prop where
  ex : Ex g.h H
  fg : ∀ a o, G a = some o → H a = some o ∧ g.h a = none ∧ a ∉ g.r
  len : σ.length = δ.e.length
  rl : g.r.length = δ.s.length
  sl : ∀ (i : Nat) (c : Cl), δ.e[i]? = some c → c ≠ .no → ∃ v : V, σ[i]? = some (some v) ∧ CR K g v c
  ob : ∀ (l : Nat) (o : Ob), δ.s[l]? = some o → o.live = true → ∃ (a : Addr) (u : HO), g.r[l]? = some a ∧ H a = some u ∧ ObR K g o u ∧ g.h a = none
  nd : g.r.Nodup
  al : ∀ a ∈ g.r, H a ≠ none
  nt : ∀ a xs, H a = some (.tup xs) → a ∉ g.r ∧ G a = none
  gx : ∀ a fs, G a ≠ some (.xd fs)
  fz : ∀ (l : Nat) (kvs : List (List Key × Cl)), δ.s[l]? = some (.ft kvs) → ∃ (a : Addr) (o : Obj) (vs : List (List Key × V)), g.r[l]? = some a ∧ g.h a = some (.frz o (.dT vs)) ∧ All2 (fun p q => p.1 = q.1 ∧ CR K g p.2 q.2) vs kvs
/-- new stable things: fresh ones, or tuples that stand already -/
structure Gs (Hs H Hs' H' : Hp) : Prop where
  s : Ex Hs Hs'
  h : Ex H H'
  i : Ex Hs' H'
  f : ∀ a, H a ≠ none → Hs' a = Hs a ∨ ∃ ys, H a = some (.tup ys)
theorem Gs.of {Hs H Hs' H' : Hp} (g : Gr Hs H Hs' H') : Gs Hs H Hs' H' := ⟨g.s, g.h, g.i, fun a h => .inl (g.f a h)⟩
theorem Gs.trans {Hs H Hs' H' Hs2 H2 : Hp} (a : Gs Hs H Hs' H') (b : Gs Hs' H' Hs2 H2) : Gs Hs H Hs2 H2 := ⟨a.s.trans b.s, a.h.trans b.h, b.i, fun c hc => by
  cases q : H c with
  | none => exact absurd q hc
  | some o =>
    have q' := a.h c o q
    rcases a.f c hc with z | ⟨ys, z⟩
    · rcases b.f c (by rw [q']; simp) with w | ⟨ys, w⟩
      · exact .inl (w.trans z)
      · rw [q'] at w
        exact .inr ⟨ys, w⟩
    · rw [q] at z
      exact .inr ⟨ys, z⟩⟩
/-- a tuple that stands already is stable -/
theorem Gs.adopt {Hs H : Hp} {q : Addr} {ys : List V} (e : Ex Hs H) (h : H q = some (.tup ys)) : Gs Hs H (upd Hs q (.tup ys)) H where
  s := fun a o z => by
    by_cases ha : a = q
    · subst ha
      rw [e a o z] at h
      cases h
      exact upd_same
    · rw [upd_ne ha]; exact z
  h := Ex.refl _
  i := fun a o z => by
    by_cases ha : a = q
    · subst ha
      rw [upd_same] at z
      cases z
      exact h
    · rw [upd_ne ha] at z; exact e a o z
  f := fun a _ => by
    by_cases ha : a = q
    · subst ha; exact .inr ⟨ys, h⟩
    · rw [upd_ne ha]; exact .inl rfl
structure Grw (g : Gh) (H : Hp) (g' : Gh) (H' : Hp) : Prop where
  q : g'.r = g.r
  g : Gs g.h H g'.h H'
theorem Grw.le {g g' : Gh} {H H' : Hp} (a : Grw g H g' H') : Le g g' := ⟨fun l x h => by rw [a.q]; exact h, a.g.s⟩
theorem Grw.refl {g : Gh} {H : Hp} (e : Ex g.h H) : Grw g H g H := ⟨rfl, .of (.refl e)⟩
theorem Grw.new {g : Gh} {H : Hp} {p : Addr} {o : HO} (e : Ex g.h H) (h : H p = none) : Grw g H ⟨g.r, upd g.h p o⟩ (upd H p o) := ⟨rfl, .of (Gr.new e h)⟩
theorem Grw.of {g : Gh} {H Hs' H' : Hp} (a : Gr g.h H Hs' H') : Grw g H ⟨g.r, Hs'⟩ H' := ⟨rfl, .of a⟩
theorem Grw.ofS {g : Gh} {H Hs' H' : Hp} (a : Gs g.h H Hs' H') : Grw g H ⟨g.r, Hs'⟩ H' := ⟨rfl, a⟩
theorem Grw.trans {g g1 g2 : Gh} {H H1 H2 : Hp} (a : Grw g H g1 H1) (b : Grw g1 H1 g2 H2) : Grw g H g2 H2 := ⟨b.q.trans a.q, a.g.trans b.g⟩
section
variable {K : Frag} {G : Hp} {g g' : Gh} {H H' : Hp} {σ σ' : L2.St} {δ δ' : Sx} {e e' : List Cl} {s s' : List Ob}
theorem RE.grow (r : RE K G g H σ δ) (w : Grw g H g' H') : RE K G g' H' σ δ where
  ex := w.g.i
  fg := fun a o q => by
    obtain ⟨h1, h2, h3⟩ := r.fg a o q
    refine ⟨w.g.h a o h1, ?_, by rw [w.q]; exact h3⟩
    rcases w.g.f a (by rw [h1]; simp) with z | ⟨ys, z⟩
    · rw [z, h2]
    · rw [(r.nt a ys z).2] at q; cases q
  len := r.len
  rl := by rw [w.q]; exact r.rl
  sl := fun i c q hc => by
    obtain ⟨v, h1, h2⟩ := r.sl i c q hc
    exact ⟨v, h1, h2.le w.le⟩
  ob := fun l o q hl => by
    obtain ⟨a, u, h1, h2, h3, h4⟩ := r.ob l o q hl
    refine ⟨a, u, by rw [w.q]; exact h1, w.g.h a u h2, h3.le w.le, ?_⟩
    rcases w.g.f a (by rw [h2]; simp) with z | ⟨ys, z⟩
    · rw [z, h4]
    · exact absurd (List.mem_of_getElem? h1) (r.nt a ys z).1
  nd := by rw [w.q]; exact r.nd
  al := fun a ha => by
    rw [w.q] at ha
    have := r.al a ha
    cases q : H a with
    | none => exact absurd q this
    | some o => rw [w.g.h a o q]; simp
  nt := fun a xs q => by
    refine ⟨fun ha => ?_, ?_⟩
    · rw [w.q] at ha
      cases z : H a with
      | none => exact r.al a ha z
      | some o =>
        have := w.g.h a o z
        rw [q] at this
        cases this
        exact (r.nt a xs z).1 ha
    · cases z : G a with
      | none => rfl
      | some o =>
        have h1 := (r.fg a o z).1
        have := w.g.h a o h1
        rw [q] at this
        cases this
        rw [(r.nt a xs h1).2] at z
        cases z
  gx := r.gx
  fz := fun l kvs q => by
    obtain ⟨a, o, vs, h1, h2, h3⟩ := r.fz l kvs q
    exact ⟨a, o, vs, by rw [w.q]; exact h1, w.g.s _ _ h2, h3.imp fun _ _ z => ⟨z.1, z.2.le w.le⟩⟩
/-- other slots, the same store -/
theorem RE.slots (r : RE K G g H σ δ) {σ' : L2.St} {e' : List Cl} (hl : σ'.length = e'.length) (h : ∀ (i : Nat) (c : Cl), e'[i]? = some c → c ≠ .no → ∃ v : V, σ'[i]? = some (some v) ∧ CR K g v c) : RE K G g H σ' ⟨e', δ.s⟩ where
  ex := r.ex
  fg := r.fg
  len := hl
  rl := r.rl
  sl := h
  ob := r.ob
  nd := r.nd
  al := r.al
  nt := r.nt
  gx := r.gx
  fz := r.fz
/-- a slot that says nothing may hold anything -/
theorem RE.sig (r : RE K G g H σ δ) (hl : σ'.length = σ.length) (h : ∀ (i : Nat) (c : Cl), δ.e[i]? = some c → c ≠ .no → σ'[i]? = σ[i]?) : RE K G g H σ' δ :=
  r.slots (σ' := σ') (e' := δ.e) (hl.trans r.len) fun i c q hc => by rw [h i c q hc]; exact r.sl i c q hc
/-- less is said -/
theorem RE.less (r : RE K G g H σ δ) {e' : List Cl} (hl : e'.length = δ.e.length) (h : ∀ (i : Nat) (c : Cl), e'[i]? = some c → c = Cl.no ∨ δ.e[i]? = some c) : RE K G g H σ ⟨e', δ.s⟩ :=
  r.slots (r.len.trans hl.symm) fun i c q hc => r.sl i c ((h i c q).resolve_left hc) hc
theorem RE.set {v : V} {c : Cl} {i : Nat} (r : RE K G g H σ δ) (h : CR K g v c) : RE K G g H (σ.set i (some v)) ⟨δ.e.set i c, δ.s⟩ :=
  r.slots (by rw [List.length_set, List.length_set]; exact r.len) fun j d q hd => by
    rcases setGet q with ⟨rfl, z⟩ | ⟨hj, z⟩
    · subst z
      have hl := set_lt q
      exact ⟨v, by rw [List.getElem?_set_self (by rw [r.len]; exact hl)], h⟩
    · rw [List.getElem?_set_ne (Ne.symm hj)]
      exact r.sl j d z hd
/-- only the store and the heap -/
theorem RE.bare (r : RE K G g H σ δ) : RE K G g H [] ⟨[], δ.s⟩ := r.slots rfl fun i c q => by simp at q
theorem RE.lift (r : RE K G g H σ δ) (e : Le g g') (r' : RE K G g' H' σ' δ') : RE K G g' H' σ ⟨δ.e, δ'.s⟩ :=
  r'.slots r.len fun i c q hc => by
    obtain ⟨v, h1, h2⟩ := r.sl i c q hc
    exact ⟨v, h1, h2.le e⟩
theorem RE.nin (r : RE K G g H σ δ) {p : Addr} (h : H p = none) : p ∉ g.r := fun z => r.al p z h
/-- new things that no name reaches -/
theorem RE.newH (r : RE K G g H σ δ) (e : Ex H H') : RE K G g H' σ δ := r.grow ⟨rfl, Ex.refl _, e, r.ex.trans e, fun _ _ => .inl rfl⟩
/-- a thing of the store changes in place -/
theorem RE.write {l : Nat} {a : Addr} {o o' : Ob} {u : HO} (r : RE K G g H σ δ) (hl : δ.s[l]? = some o) (hv : o.live = true) (ha : g.r[l]? = some a) (hu : ObR K g o' u) : RE K G g (upd H a u) σ ⟨δ.e, δ.s.set l o'⟩ := by
  obtain ⟨b, w, h1, h2, h3, h4⟩ := r.ob l o hl hv
  rw [ha] at h1
  obtain rfl : a = b := Option.some.inj h1
  have hlt : l < δ.s.length := (List.getElem?_eq_some_iff.mp hl).1
  have inj : ∀ {l' : Nat}, g.r[l']? = some a → l' = l := fun {l'} q => by
    exact nodup_at r.nd q ha
  exact {
    ex := fun b v q => by
      have hb : b ≠ a := fun z => by rw [z, h4] at q; cases q
      rw [upd_ne hb]; exact r.ex b v q
    fg := fun b v q => by
      obtain ⟨f1, f2, f3⟩ := r.fg b v q
      have hb : b ≠ a := fun z => f3 (z ▸ List.mem_of_getElem? ha)
      exact ⟨by rw [upd_ne hb]; exact f1, f2, f3⟩
    len := r.len
    rl := by rw [r.rl]; simp
    sl := r.sl
    ob := fun l' o1 q hv1 => by
      rcases setGet q with ⟨rfl, z⟩ | ⟨hj, z⟩
      · subst z; exact ⟨a, u, ha, upd_same, hu, h4⟩
      · obtain ⟨b, v, f1, f2, f3, f4⟩ := r.ob l' o1 z hv1
        have hb : b ≠ a := fun z => hj (inj (z ▸ f1))
        exact ⟨b, v, f1, by rw [upd_ne hb]; exact f2, f3, f4⟩
    nd := r.nd
    al := fun b hb => by
      by_cases hba : b = a
      · subst hba; rw [upd_same]; simp
      · rw [upd_ne hba]; exact r.al b hb
    nt := fun b xs q => by
      by_cases hba : b = a
      · subst hba
        rw [upd_same] at q
        cases q
        cases hu
      · rw [upd_ne hba] at q; exact r.nt b xs q
    gx := r.gx
    fz := fun l' kvs q => by
      rcases setGet q with ⟨rfl, z⟩ | ⟨hj, z⟩
      · subst z; cases hu
      · exact r.fz l' kvs z }
/-- a fresh list that nothing reaches yet -/
structure FrO (K : Frag) (G : Hp) (g : Gh) (H : Hp) (a : Addr) (xs : List Cl) : Prop where
  at_ : ∃ vs, H a = some (.lst vs) ∧ All2 (CR K g) vs xs
  hs : g.h a = none
  gg : G a = none
  nr : a ∉ g.r
/-- any fresh thing -/
structure Fro (K : Frag) (G : Hp) (g : Gh) (H : Hp) (a : Addr) (o : Ob) : Prop where
  at_ : ∃ u, H a = some u ∧ ObR K g o u
  hs : g.h a = none
  gg : G a = none
  nr : a ∉ g.r
theorem FrO.fro {a : Addr} {xs : List Cl} (f : FrO K G g H a xs) : Fro K G g H a (.lst xs) := by
  obtain ⟨⟨vs, h1, h2⟩, b, c, d⟩ := f
  exact ⟨⟨_, h1, .lst h2⟩, b, c, d⟩
/-- .. becomes one of the store's -/
theorem RE.alloc {a : Addr} {o : Ob} (r : RE K G g H σ δ) (f : Fro K G g H a o) : Le g ⟨g.r ++ [a], g.h⟩ ∧ RE K G ⟨g.r ++ [a], g.h⟩ H σ ⟨δ.e, δ.s ++ [o]⟩ := by
  have le : Le g ⟨g.r ++ [a], g.h⟩ := ⟨fun l b h => by
    have := (List.getElem?_eq_some_iff.mp h).1
    show (g.r ++ [a])[l]? = some b
    rw [List.getElem?_append_left this]; exact h, Ex.refl _⟩
  obtain ⟨⟨u, h1, h2⟩, b, c, d⟩ := f
  refine ⟨le, ?_⟩
  exact {
    ex := r.ex
    fg := fun b v q => by
      obtain ⟨f1, f2, f3⟩ := r.fg b v q
      refine ⟨f1, f2, fun z => ?_⟩
      rcases List.mem_append.mp z with z | z
      · exact f3 z
      · simp at z; subst z; rw [c] at q; cases q
    len := r.len
    rl := by simp [r.rl]
    sl := fun i k q hk => by
      obtain ⟨v, f1, f2⟩ := r.sl i k q hk
      exact ⟨v, f1, f2.le le⟩
    ob := fun l o1 q hv1 => by
      by_cases hl : l < δ.s.length
      · rw [List.getElem?_append_left hl] at q
        obtain ⟨b, v, f1, f2, f3, f4⟩ := r.ob l o1 q hv1
        exact ⟨b, v, le.r _ _ f1, f2, f3.le le, f4⟩
      · have hl' : l = δ.s.length := by
          have := (List.getElem?_eq_some_iff.mp q).1
          simp at this
          omega
        subst hl'
        rw [List.getElem?_append_right (Nat.le_refl _), Nat.sub_self] at q
        have q : o = o1 := Option.some.inj q
        subst q
        refine ⟨a, u, ?_, h1, h2.le le, b⟩
        show (g.r ++ [a])[δ.s.length]? = some a
        rw [← r.rl, List.getElem?_append_right (Nat.le_refl _), Nat.sub_self]
        rfl
    nd := List.nodup_append.mpr ⟨r.nd, by simp, fun x hx y hy => by
      simp at hy; subst hy
      exact fun z => d (z ▸ hx)⟩
    al := fun b hb => by
      rcases List.mem_append.mp hb with z | z
      · exact r.al b z
      · simp at z; subst z; rw [h1]; simp
    nt := fun b xs q => by
      have hba : b ≠ a := fun z => by
        subst z
        rw [h1] at q
        cases q
        cases h2
      obtain ⟨k1, k2⟩ := r.nt b xs q
      refine ⟨fun z => ?_, k2⟩
      rcases List.mem_append.mp z with z | z
      · exact k1 z
      · simp at z; exact hba z
    gx := r.gx
    fz := fun l kvs q => by
      by_cases hl : l < δ.s.length
      · rw [List.getElem?_append_left hl] at q
        obtain ⟨b, o', vs, f1, f2, f3⟩ := r.fz l kvs q
        exact ⟨b, o', vs, le.r _ _ f1, f2, f3.imp fun _ _ z => ⟨z.1, z.2.le le⟩⟩
      · have hl' : l = δ.s.length := by
          have := (List.getElem?_eq_some_iff.mp q).1
          simp at this
          omega
        subst hl'
        rw [List.getElem?_append_right (Nat.le_refl _), Nat.sub_self] at q
        have q : o = .ft kvs := Option.some.inj q
        subst q
        cases h2 }
/-- all of them data -/
def shL : List Cl → Option (List D)
  | [] => some []
  | .sh d :: cs => (shL cs).map (d :: ·)
  | _ :: _ => none
theorem shL_rps : ∀ {vs : List V} {cs : List Cl} {ds : List D}, All2 (CR K g) vs cs → shL cs = some ds → Rps K g.h vs ds
  | _, _, ds, .nil, h => by obtain rfl := Option.some.inj h; exact .nil
  | _, _, ds, .cons (b := .sh d) (bs := cs) (.sh r) t, h => by
    unfold shL at h
    cases z : shL cs with
    | none => rw [z] at h; simp at h
    | some es =>
      rw [z] at h
      have e : d :: es = ds := by simpa using h
      subst e
      exact .cons r (shL_rps t z)
  | _, _, ds, .cons (.lo r) t, h => by simp [shL] at h
theorem rps_cr : ∀ {vs : List V} {ds : List D}, Rps K g.h vs ds → All2 (CR K g) vs (ds.map Cl.sh)
  | _, _, .nil => .nil
  | _, _, .cons h t => .cons (.sh h) (rps_cr t)
theorem ex_upd' {p : Addr} {u : HO} {Hs : Hp} (e : Ex Hs H) (h : H p = some u) : Ex (upd Hs p u) H := fun c w z => by
  by_cases hc : c = p
  · subst hc; rw [upd_same] at z; cases z; exact h
  · rw [upd_ne hc] at z; exact e c w z
/-- a fresh list becomes data -/
theorem RE.freeze {a : Addr} {xs : List Cl} {ds : List D} (r : RE K G g H σ δ) (f : FrO K G g H a xs) (hd : shL xs = some ds) : ∃ g', Le g g' ∧ g'.r = g.r ∧ RE K G g' H σ δ ∧ Rp K g'.h (.ref a) (.list ds) := by
  obtain ⟨vs, h1, h2⟩ := f.at_
  have e : Ex g.h (upd g.h a (.lst vs)) := ex_new f.hs
  have le : Le g ⟨g.r, upd g.h a (.lst vs)⟩ := ⟨fun _ _ h => h, e⟩
  refine ⟨⟨g.r, upd g.h a (.lst vs)⟩, le, rfl, ?_, .lst (SqL.of upd_same) ((shL_rps h2 hd).ex e)⟩
  exact {
    ex := ex_upd' r.ex h1
    fg := fun b o q => by
      obtain ⟨f1, f2, f3⟩ := r.fg b o q
      have hb : b ≠ a := fun z => by rw [z, f.gg] at q; cases q
      exact ⟨f1, by show upd g.h a _ b = none; rw [upd_ne hb]; exact f2, f3⟩
    len := r.len
    rl := r.rl
    sl := fun i c q hc => by
      obtain ⟨v, q1, q2⟩ := r.sl i c q hc
      exact ⟨v, q1, q2.le le⟩
    ob := fun l o q hl => by
      obtain ⟨b, u, q1, q2, q3, q4⟩ := r.ob l o q hl
      have hb : b ≠ a := fun z => f.nr (z ▸ List.mem_of_getElem? q1)
      exact ⟨b, u, q1, q2, q3.le le, by show upd g.h a _ b = none; rw [upd_ne hb]; exact q4⟩
    nd := r.nd
    al := r.al
    nt := r.nt
    gx := r.gx
    fz := fun l kvs q => by
      obtain ⟨b, o', vs', f1, f2, f3⟩ := r.fz l kvs q
      exact ⟨b, o', vs', f1, e _ _ f2, f3.imp fun _ _ z => ⟨z.1, z.2.le le⟩⟩ }
/-- a list of the store becomes data: it is the store's no more -/
theorem RE.seal {l : Nat} {a : Addr} {xs : List Cl} {ds : List D} (r : RE K G g H σ δ) (hl : δ.s[l]? = some (.lst xs)) (ha : g.r[l]? = some a) (hd : shL xs = some ds) : ∃ g', Le g g' ∧ g'.r = g.r ∧ RE K G g' H σ ⟨δ.e, δ.s.set l .gone⟩ ∧ Rp K g'.h (.ref a) (.list ds) := by
  obtain ⟨b, w, h1, h2, h3, h4⟩ := r.ob l _ hl rfl
  rw [ha] at h1
  obtain rfl : a = b := Option.some.inj h1
  cases h3 with
  | lst h3 =>
    rename_i vs
    have e : Ex g.h (upd g.h a (.lst vs)) := ex_new h4
    have le : Le g ⟨g.r, upd g.h a (.lst vs)⟩ := ⟨fun _ _ h => h, e⟩
    refine ⟨⟨g.r, upd g.h a (.lst vs)⟩, le, rfl, ?_, .lst (SqL.of upd_same) ((shL_rps h3 hd).ex e)⟩
    have inj : ∀ {l' : Nat}, g.r[l']? = some a → l' = l := fun {l'} q => by
      exact nodup_at r.nd q ha
    exact {
      ex := ex_upd' r.ex h2
      fg := fun b o q => by
        obtain ⟨f1, f2, f3⟩ := r.fg b o q
        have hb : b ≠ a := fun z => f3 (z ▸ List.mem_of_getElem? ha)
        exact ⟨f1, by show upd g.h a _ b = none; rw [upd_ne hb]; exact f2, f3⟩
      len := r.len
      rl := by rw [r.rl]; simp
      sl := fun i c q hc => by
        obtain ⟨v, q1, q2⟩ := r.sl i c q hc
        exact ⟨v, q1, q2.le le⟩
      ob := fun l' o q hlv => by
        rcases setGet q with ⟨rfl, z⟩ | ⟨hj, z⟩
        · subst z; cases hlv
        · obtain ⟨b, u, q1, q2, q3, q4⟩ := r.ob l' o z hlv
          have hb : b ≠ a := fun z => hj (inj (z ▸ q1))
          exact ⟨b, u, q1, q2, q3.le le, by show upd g.h a _ b = none; rw [upd_ne hb]; exact q4⟩
      nd := r.nd
      al := r.al
      nt := r.nt
      gx := r.gx
      fz := fun l' kvs q => by
        rcases setGet q with ⟨rfl, z⟩ | ⟨hj, z⟩
        · cases z
        · obtain ⟨b, o', vs', f1, f2, f3⟩ := r.fz l' kvs z
          exact ⟨b, o', vs', f1, e _ _ f2, f3.imp fun _ _ z => ⟨z.1, z.2.le le⟩⟩ }
end
end Ds
namespace Ds
open PySem PySem.Spec PyProof.Rows L2 Dn
def Post {α : Type} (K : Frag) (E : XQ) (G : Hp) (g : Gh) (σ : L2.St) (r : Res α) (Q : α → Gh → Hp → Sx → Prop) : Prop :=
  match r with
  | .ok a δ' => ∀ g' H', Le g g' → RE K G g' H' σ δ' → Q a g' H' δ'
  | .exc x δ' => ∀ g' H', Le g g' → RE K G g' H' σ δ' → E x σ H'
  | .bad => False
theorem Post.ex {α : Type} {K : Frag} {E : XQ} {G : Hp} {g g1 : Gh} {σ : L2.St} {r : Res α} {Q : α → Gh → Hp → Sx → Prop} (h : Post K E G g σ r Q) (e : Le g g1) : Post K E G g1 σ r Q := by
  cases r with
  | ok a δ' => exact fun g' H' e' r => h g' H' (e.trans e') r
  | exc x δ' => exact fun g' H' e' r => h g' H' (e.trans e') r
  | bad => exact h
theorem Post.of {α : Type} {K : Frag} {E : XQ} {G : Hp} {g : Gh} {H : Hp} {σ : L2.St} {a : α} {δ : Sx} {Q : α → Gh → Hp → Sx → Prop} (h : Post K E G g σ (.ok a δ) Q) (r : RE K G g H σ δ) : Q a g H δ := h g H (Le.refl _) r
theorem Post.grow {α : Type} {K : Frag} {E : XQ} {G : Hp} {g g' : Gh} {H H' : Hp} {σ : L2.St} {a : α} {δ : Sx} {Q : α → Gh → Hp → Sx → Prop} (h : Post K E G g σ (.ok a δ) Q) (r : RE K G g H σ δ) (w : Grw g H g' H') : Q a g' H' δ :=
  h g' H' w.le (r.grow w)
theorem Post.mono {α : Type} {K : Frag} {E : XQ} {G : Hp} {g : Gh} {σ : L2.St} {r : Res α} {Q Q' : α → Gh → Hp → Sx → Prop} (h : Post K E G g σ r Q) (k : ∀ a g' H' δ', Q a g' H' δ' → Q' a g' H' δ') : Post K E G g σ r Q' := by
  cases r with
  | ok a δ' => exact fun g' H' e r => k _ _ _ _ (h g' H' e r)
  | exc x δ' => exact h
  | bad => exact h
def Cf {α : Type} (K : Frag) (E : XQ) (m : M α) (σ : L2.St) (H : Hp) (Q : Hp → α → Gh → Hp → Sx → Prop) : Prop :=
  ∃ (G : Hp) (g : Gh) (δ : Sx), RE K G g H σ δ ∧ Post K E G g σ (m δ) (Q G)
/-- data -/
def tOf (K : Frag) (E : XQ) (m : M D) : TE := fun σ H Q => Cf K E m σ H fun _ d g' H' _ => ∀ v, Rp K g'.h v d → Q v H'
def tOfT (K : Frag) (E : XQ) (m : M Bool) : TT := fun σ H Q => Cf K E m σ H fun _ b _ H' _ => Q b H'
/-- a thing of the store -/
def tOfL (K : Frag) (E : XQ) (m : M Nat) : TE := fun σ H Q => Cf K E m σ H fun _ l g' H' _ => ∀ a, g'.r[l]? = some a → Q (.ref a) H'
/-- either -/
def tOfC (K : Frag) (E : XQ) (m : M Cl) : TE := fun σ H Q => Cf K E m σ H fun _ c g' H' _ => ∀ v, CR K g' v c → Q v H'
/-- a fresh list -/
def tOfO (K : Frag) (E : XQ) (m : M (List Cl)) : TE := fun σ H Q => Cf K E m σ H fun G xs g' H' _ => ∀ a, FrO K G g' H' a xs → Q (.ref a) H'
def tOfA (K : Frag) (E : XQ) (m : M (List Cl)) : TA := fun σ H Q => Cf K E m σ H fun _ cs g' H' _ => ∀ vs, All2 (CR K g') vs cs → Q vs H'
section
variable {K : Frag} {E : XQ} {G : Hp} {g : Gh} {H : Hp} {σ : L2.St} {δ : Sx}
theorem Cf.step {α β : Type} {ma : M α} {f : α → M β} {QQ : β → Gh → Hp → Sx → Prop} {R : Hp → α → Gh → Hp → Sx → Prop} (re : RE K G g H σ δ) (po : Post K E G g σ (mBind ma f δ) QQ)
    (k : ∀ a g1 H1 δ1, Le g g1 → RE K G g1 H1 σ δ1 → Post K E G g1 σ (f a δ1) QQ → R G a g1 H1 δ1) : Cf K E ma σ H R := by
  refine ⟨G, g, δ, re, ?_⟩
  unfold mBind at po
  cases h : ma δ with
  | ok a δ1 =>
    rw [h] at po
    exact fun g' H' e r => k a g' H' δ1 e r (Post.ex po e)
  | exc x δ1 =>
    rw [h] at po
    exact po
  | bad =>
    rw [h] at po
    exact po
theorem tOf.step {β : Type} {ma : M D} {f : D → M β} {QQ : β → Gh → Hp → Sx → Prop} {R : V → Hp → Prop} (re : RE K G g H σ δ) (po : Post K E G g σ (mBind ma f δ) QQ)
    (k : ∀ v d g1 H1 δ1, Le g g1 → RE K G g1 H1 σ δ1 → Rp K g1.h v d → Post K E G g1 σ (f d δ1) QQ → R v H1) : tOf K E ma σ H R :=
  Cf.step re po fun d g1 H1 δ1 e r p v rv => k v d g1 H1 δ1 e r rv p
theorem tOfT.step {β : Type} {ma : M Bool} {f : Bool → M β} {QQ : β → Gh → Hp → Sx → Prop} {R : Bool → Hp → Prop} (re : RE K G g H σ δ) (po : Post K E G g σ (mBind ma f δ) QQ)
    (k : ∀ b g1 H1 δ1, Le g g1 → RE K G g1 H1 σ δ1 → Post K E G g1 σ (f b δ1) QQ → R b H1) : tOfT K E ma σ H R :=
  Cf.step re po k
theorem tOfL.step {β : Type} {ma : M Nat} {f : Nat → M β} {QQ : β → Gh → Hp → Sx → Prop} {R : V → Hp → Prop} (re : RE K G g H σ δ) (po : Post K E G g σ (mBind ma f δ) QQ)
    (k : ∀ a l g1 H1 δ1, Le g g1 → RE K G g1 H1 σ δ1 → g1.r[l]? = some a → Post K E G g1 σ (f l δ1) QQ → R (.ref a) H1) : tOfL K E ma σ H R :=
  Cf.step re po fun l g1 H1 δ1 e r p a ha => k a l g1 H1 δ1 e r ha p
theorem tOfC.step {β : Type} {ma : M Cl} {f : Cl → M β} {QQ : β → Gh → Hp → Sx → Prop} {R : V → Hp → Prop} (re : RE K G g H σ δ) (po : Post K E G g σ (mBind ma f δ) QQ)
    (k : ∀ v c g1 H1 δ1, Le g g1 → RE K G g1 H1 σ δ1 → CR K g1 v c → Post K E G g1 σ (f c δ1) QQ → R v H1) : tOfC K E ma σ H R :=
  Cf.step re po fun c g1 H1 δ1 e r p v rv => k v c g1 H1 δ1 e r rv p
theorem tOfA.step {β : Type} {ma : M (List Cl)} {f : List Cl → M β} {QQ : β → Gh → Hp → Sx → Prop} {R : List V → Hp → Prop} (re : RE K G g H σ δ) (po : Post K E G g σ (mBind ma f δ) QQ)
    (k : ∀ vs cs g1 H1 δ1, Le g g1 → RE K G g1 H1 σ δ1 → All2 (CR K g1) vs cs → Post K E G g1 σ (f cs δ1) QQ → R vs H1) : tOfA K E ma σ H R :=
  Cf.step re po fun cs g1 H1 δ1 e r p vs rv => k vs cs g1 H1 δ1 e r rv p
theorem tOfO.step {β : Type} {ma : M (List Cl)} {f : List Cl → M β} {QQ : β → Gh → Hp → Sx → Prop} {R : V → Hp → Prop} (re : RE K G g H σ δ) (po : Post K E G g σ (mBind ma f δ) QQ)
    (k : ∀ a xs g1 H1 δ1, Le g g1 → RE K G g1 H1 σ δ1 → FrO K G g1 H1 a xs → Post K E G g1 σ (f xs δ1) QQ → R (.ref a) H1) : tOfO K E ma σ H R :=
  Cf.step re po fun xs g1 H1 δ1 e r p a fa => k a xs g1 H1 δ1 e r fa p
theorem Cf.last {α : Type} {ma : M α} {R : Hp → α → Gh → Hp → Sx → Prop} (re : RE K G g H σ δ) (po : Post K E G g σ (ma δ) (R G)) : Cf K E ma σ H R := ⟨G, g, δ, re, po⟩
theorem Post.opt {α : Type} {o : Option α} {QQ : α → Gh → Hp → Sx → Prop} (po : Post K E G g σ (mOpt o δ) QQ) : ∃ a, o = some a ∧ Post K E G g σ (.ok a δ) QQ := by
  unfold mOpt at po
  cases o with
  | none => exact po.elim
  | some a => exact ⟨a, rfl, po⟩
theorem Post.optB {α β : Type} {o : Option α} {f : α → M β} {QQ : β → Gh → Hp → Sx → Prop} (po : Post K E G g σ (mBind (mOpt o) f δ) QQ) : ∃ a, o = some a ∧ Post K E G g σ (f a δ) QQ := by
  cases o with
  | none => exact po.elim
  | some a => exact ⟨a, rfl, po⟩
end
section
variable {X : Cx} {E : XQ} {a b e : Expr} {pos : Pos} {ma mb m : M D}
def mCl (i : Nat) : M Cl := fun δ => match δ.e[i]? with
  | some (.sh d) => .ok (.sh d) δ
  | some (.lo l) => .ok (.lo l) δ
  | _ => .bad
def toD : Cl → Option D
  | .sh d => some d
  | _ => none
def toL : Cl → Option Nat
  | .lo l => some l
  | _ => none
def mVar (i : Nat) : M D := fun δ => match δ.e[i]? with
  | some (.sh d) => .ok d δ
  | _ => .bad
def mLV (i : Nat) : M Nat := fun δ => match δ.e[i]? with
  | some (.lo l) => .ok l δ
  | _ => .bad
theorem je_var {i : Nat} {x : Str} (hN : X.N[i]? = some x) (hv : Vis X.env.scope x) (hd : (x == ("__debug__" : Str)) = false := by decide) (hcd : (x == ("__classdict__" : Str)) = false := by decide) : PE X (.Name x pos) (tOf X.K E (mVar i)) :=
  pe_imp (pe_var hN hv hd hcd) fun σ H Q ⟨G, g, δ, re, po⟩ => by
    unfold mVar at po
    split at po
    · rename_i d hd
      obtain ⟨v, h1, h2⟩ := re.sl i _ hd (by simp)
      cases h2 with
      | sh h2 => exact ⟨v, h1, po g H (Le.refl _) re v h2⟩
    · exact po.elim
theorem jl_var {i : Nat} {x : Str} (hN : X.N[i]? = some x) (hv : Vis X.env.scope x) (hd : (x == ("__debug__" : Str)) = false := by decide) (hcd : (x == ("__classdict__" : Str)) = false := by decide) : PE X (.Name x pos) (tOfL X.K E (mLV i)) :=
  pe_imp (pe_var hN hv hd hcd) fun σ H Q ⟨G, g, δ, re, po⟩ => by
    unfold mLV at po
    split at po
    · rename_i d hd
      obtain ⟨v, h1, h2⟩ := re.sl i _ hd (by simp)
      cases h2 with
      | lo h2 => exact ⟨_, h1, po g H (Le.refl _) re _ h2⟩
    · exact po.elim
/-- data or a thing, as a cell -/
def mSh (m : M D) : M Cl := mBind m fun d => mPure (.sh d)
def mLo (m : M Nat) : M Cl := mBind m fun l => mPure (.lo l)
theorem jc_sh (h : PE X e (tOf X.K E m)) : PE X e (tOfC X.K E (mSh m)) :=
  pe_imp h fun σ H Q ⟨G, g, δ, re, po⟩ => tOf.step re po fun v d g1 H1 δ1 e1 re1 r1 po1 => Post.of po1 re1 v (.sh r1)
theorem jc_lo {m : M Nat} (h : PE X e (tOfL X.K E m)) : PE X e (tOfC X.K E (mLo m)) :=
  pe_imp h fun σ H Q ⟨G, g, δ, re, po⟩ => tOfL.step re po fun a l g1 H1 δ1 e1 re1 r1 po1 => Post.of po1 re1 _ (.lo r1)
def mD (m : M Cl) : M D := mBind m fun c => mOpt (toD c)
def mL (m : M Cl) : M Nat := mBind m fun c => mOpt (toL c)
theorem je_cell {m : M Cl} (h : PE X e (tOfC X.K E m)) : PE X e (tOf X.K E (mD m)) :=
  pe_imp h fun σ H Q ⟨G, g, δ, re, po⟩ => tOfC.step re po fun v c g1 H1 δ1 e1 re1 r1 po1 => by
    obtain ⟨d, hd, po2⟩ := Post.opt po1
    cases r1 with
    | sh r => cases hd; exact Post.of po2 re1 v r
    | lo r => cases hd
theorem jl_cell {m : M Cl} (h : PE X e (tOfC X.K E m)) : PE X e (tOfL X.K E (mL m)) :=
  pe_imp h fun σ H Q ⟨G, g, δ, re, po⟩ => tOfC.step re po fun v c g1 H1 δ1 e1 re1 r1 po1 => by
    obtain ⟨d, hd, po2⟩ := Post.opt po1
    cases r1 with
    | sh r => cases hd
    | lo r => cases hd; exact Post.of po2 re1 _ r
/-- a constant -/
def mC (d : D) : M D := mPure d
theorem je_c {t : TE} {d : D} {v : V} (h : PE X e (tC v)) (hv : ∀ H, Rp X.K H v d) : PE X e (tOf X.K E (mC d)) :=
  pe_imp h fun σ H Q ⟨G, g, δ, re, po⟩ => Post.of po re v (hv g.h)
theorem je_int {i : Int} {j pos} : PE X (.Constant (.int i) j pos) (tOf X.K E (mC (.int i))) := je_c (t := tC (.int i)) pe_int fun _ => .int i
theorem je_bl {i : Bool} {j pos} : PE X (.Constant (.bool i) j pos) (tOf X.K E (mC (.bool i))) := je_c (t := tC (.bl i)) pe_bl fun _ => .bl i
theorem je_non {j pos} : PE X (.Constant .none j pos) (tOf X.K E (mC .none)) := je_c (t := tC .non) pe_non fun _ => .non
theorem je_str {x : Str} {j pos} : PE X (.Constant (.str x) j pos) (tOf X.K E (mC (.str x))) := je_c (t := tC (.str x)) pe_str fun _ => .str x
theorem je_glob {x : Str} {v : V} {u : Value} {d : D} (hg : Gl X x) (hm : X.mg x = some u) (r : RelV v u) (hv : ∀ H, Rp X.K H v d) (hd : (x == ("__debug__" : Str)) = false := by decide) : PE X (.Name x pos) (tOf X.K E (mC d)) := je_c (t := tC v) (pe_glob hg hm r hd) hv
def mBin (f : D → D → Option D) (ma mb : M D) : M D := mBind ma fun d => mBind mb fun e => mOpt (f d e)
theorem binS {r : R2} {f : D → D → Option D} (hr : OpS X.K r f) {σ : L2.St} {H : Hp} {Q : VK} (h : tOf X.K E (mBin f ma mb) σ H Q) : tOp r (tOf X.K E ma) (tOf X.K E mb) σ H Q := by
  obtain ⟨G, g, δ, re, po⟩ := h
  refine tOf.step re po fun x d g1 H1 δ1 e1 re1 r1 po1 => ?_
  refine tOf.step re1 po1 fun y e g2 H2 δ2 e2 re2 r2 po2 => ?_
  obtain ⟨c, hc, po3⟩ := Post.opt po2
  exact hr g2.h H2 x y d e c Q re2.ex (r1.ex e2.h) r2 hc fun v Hs' H' w rv => Post.grow po3 re2 (Grw.of w) v rv
theorem je_bin {op : Operator} {r : R2} {f : D → D → Option D} (ho : OpR X (binaryOp op) r) (hr : OpS X.K r f) (ha : PE X a (tOf X.K E ma)) (hb : PE X b (tOf X.K E mb)) : PE X (.BinOp a op b pos) (tOf X.K E (mBin f ma mb)) :=
  pe_imp (pe_op ho ha hb) fun _ _ _ h => binS hr h
theorem je_cmp {op : CmpOp} {r : R2} {f : D → D → Option D} (ho : OpR X (compareOp op) r) (hr : OpS X.K r f) (ha : PE X a (tOf X.K E ma)) (hb : PE X b (tOf X.K E mb)) (hm : behindInMarks op b = false) : PE X (.Compare a [op] [b] pos) (tOf X.K E (mBin f ma mb)) :=
  pe_imp (pe_cmpR ho ha hb hm) fun _ _ _ h => binS hr h
def mTest (m : M D) : M Bool := mBind m fun d => mOpt (toB d)
theorem testS {t : TE} {m : M D} (h : ∀ σ H Q, tOf X.K E m σ H Q → t σ H Q) {σ : L2.St} {H : Hp} {Q : Bool → Hp → Prop} (q : tOfT X.K E (mTest m) σ H Q) : tTest t σ H Q := by
  obtain ⟨G, g, δ, re, po⟩ := q
  refine h _ _ _ (tOf.step re po fun x d g1 H1 δ1 e1 re1 r1 po1 => ?_)
  obtain ⟨c, hc, po3⟩ := Post.opt po1
  cases r1 <;> simp [toB] at hc
  subst hc
  exact ⟨_, rfl, Post.of po3 re1⟩
theorem jt_cmp {op : CmpOp} {r : R2} {f : D → D → Option D} (ho : OpR X (compareOp op) r) (hr : OpS X.K r f) (ha : PE X a (tOf X.K E ma)) (hb : PE X b (tOf X.K E mb)) (hm : behindInMarks op b = false) : PT X (.Compare a [op] [b] pos) (tOfT X.K E (mTest (mBin f ma mb))) :=
  pt_imp (pt_cmpR ho ha hb hm) fun _ _ _ h => testS (fun _ _ _ => binS hr) h
theorem jt_val {m : M D} (h : PE X e (tOf X.K E m)) (he : ∀ whole, isTrue e X.env whole = (do let v ← whole; standAt e.pos; holding [v] (truthy v)) := by intro _; rfl) : PT X e (tOfT X.K E (mTest m)) :=
  pt_imp (pt_val h he) fun _ _ _ q => testS (fun _ _ _ z => z) q
def mChain (f f' : D → D → Option D) (ma mb mc : M D) : M D := mBind ma fun d => mBind mb fun e => mBind (mOpt ((f d e).bind toB)) fun k => if k then mBind mc fun z => mOpt (f' e z) else mPure (.bool false)
variable {c : Expr} {mc : M D}
theorem chainS {r r' : R2} {f f' : D → D → Option D} (hr : OpB X.K r f) (hr' : OpS X.K r' f') {σ : L2.St} {H : Hp} {Q : VK} (h : tOf X.K E (mChain f f' ma mb mc) σ H Q) : tChain r r' (tOf X.K E ma) (tOf X.K E mb) (tOf X.K E mc) σ H Q := by
  obtain ⟨G, g, δ, re, po⟩ := h
  refine tOf.step re po fun x d g1 H1 δ1 e1 re1 r1 po1 => ?_
  refine tOf.step re1 po1 fun y e g2 H2 δ2 e2 re2 r2 po2 => ?_
  obtain ⟨k, hk, po3⟩ := Post.optB po2
  refine hr g2.h H2 x y d e k _ re2.ex (r1.ex e2.h) r2 hk ⟨k, rfl, ?_⟩
  cases k with
  | true =>
    rw [if_pos rfl] at po3 ⊢
    refine tOf.step re2 po3 fun z f g3 H3 δ3 e3 re3 r3 po4 => ?_
    obtain ⟨c, hc, po5⟩ := Post.opt po4
    exact hr' g3.h H3 y z e f c Q re3.ex (r2.ex e3.h) r3 hc fun v Hs' H' w rv => Post.grow po5 re3 (Grw.of w) v rv
  | false =>
    rw [if_neg Bool.false_ne_true] at po3 ⊢
    exact Post.of po3 re2 _ (.bl false)
theorem je_chain {op op' : CmpOp} {r r' : R2} {f f' : D → D → Option D} (ho : OpR X (compareOp op) r) (ho' : OpR X (compareOp op') r') (hr : OpB X.K r f) (hr' : OpS X.K r' f') (ha : PE X a (tOf X.K E ma)) (hb : PE X b (tOf X.K E mb)) (hc : PE X c (tOf X.K E mc))
    (hm : lastMarks [op, op'] [b, c] = false := by with_unfolding_all rfl) : PE X (.Compare a [op, op'] [b, c] pos) (tOf X.K E (mChain f f' ma mb mc)) :=
  pe_imp (pe_chain ho ho' ha hb hc hm) fun _ _ _ h => chainS hr hr' h
theorem je_ix (ha : PE X a (tOf X.K E ma)) (hb : PE X b (tOf X.K E mb)) (hs : PlainIx b) : PE X (.Subscript a b pos) (tOf X.K E (mBin dIx ma mb)) :=
  pe_imp (pe_ix ix_seq ha hb hs) fun _ _ _ h => binS os_ix h
def tOfP (K : Frag) (E : XQ) (m : M (Option Int)) : TO := fun σ H Q => Cf K E m σ H fun _ o _ H' _ => Q o H'
def mPart (m : M D) : M (Option Int) := mBind m fun d => mOpt (toI d)
def mNoPart : M (Option Int) := mPure none
theorem jp_none : PO X none (tOfP X.K E mNoPart) := ⟨fun pins s σ H Q I ⟨G, g, δ, re, po⟩ => po_none.run pins s σ H Q I (Post.of po re)⟩
theorem jp_some (h : PE X e (tOf X.K E m)) : PO X (some e) (tOfP X.K E (mPart m)) := ⟨fun pins s σ H Q I ⟨G, g, δ, re, po⟩ => (po_some h).run pins s σ H Q I (by
  refine tOf.step re po fun x d g1 H1 δ1 e1 re1 r1 po1 => ?_
  obtain ⟨c, hc, po3⟩ := Post.opt po1
  cases r1 <;> simp [toI] at hc
  subst hc
  exact ⟨_, rfl, Post.of po3 re1⟩)⟩
def mSl (m : M D) (ml mh : M (Option Int)) : M D := mBind m fun d => mBind ml fun l => mBind mh fun h => mOpt (dSl d l h)
theorem je_slice {lo hi : Option Expr} {ml mh : M (Option Int)} {p2 : Pos} (he : PE X e (tOf X.K E m)) (hl : PO X lo (tOfP X.K E ml)) (hu : PO X hi (tOfP X.K E mh)) : PE X (.Subscript e (.Slice lo hi none p2) pos) (tOf X.K E (mSl m ml mh)) :=
  pe_imp (pe_slice sl_Z he hl hu) fun σ H Q ⟨G, g, δ, re, po⟩ => by
    refine tOf.step re po fun x d g1 H1 δ1 e1 re1 r1 po1 => ?_
    refine Cf.step re1 po1 fun l g2 H2 δ2 e2 re2 po2 => ?_
    refine Cf.step re2 po2 fun u g3 H3 δ3 e3 re3 po3 => ?_
    obtain ⟨c, hc, po4⟩ := Post.opt po3
    exact slS re3.ex ((r1.ex e2.h).ex e3.h) hc fun v Hs' H' w rv => Post.grow po4 re3 (Grw.of w) v rv
variable {t1 t2 : M Bool} {rest : List Expr}
def mAndT (t1 t2 : M Bool) : M Bool := mBind t1 fun b => if b then t2 else mPure false
def mOrT (t1 t2 : M Bool) : M Bool := mBind t1 fun b => if b then mPure true else t2
def mNotT (t : M Bool) : M Bool := mBind t fun b => mPure (!b)
theorem jt_not (h : PT X a (tOfT X.K E t1)) : PT X (.UnaryOp .Not a pos) (tOfT X.K E (mNotT t1)) :=
  pt_imp (pt_not h) fun σ H Q ⟨G, g, δ, re, po⟩ => tOfT.step re po fun b g1 H1 δ1 e1 re1 po1 => Post.of po1 re1
theorem jw_or1 (h : PT X a (tOfT X.K E t1)) : PW X (.BoolOp .Or [a] pos) (tOfT X.K E t1) := pw_or1 h
theorem jw_or (h : PT X a (tOfT X.K E t1)) (h2 : PW X (.BoolOp .Or (b :: rest) pos) (tOfT X.K E t2)) : PW X (.BoolOp .Or (a :: b :: rest) pos) (tOfT X.K E (mOrT t1 t2)) :=
  pw_imp (pw_or h h2) fun σ H Q ⟨G, g, δ, re, po⟩ => tOfT.step re po fun b g1 H1 δ1 e1 re1 po1 => by
    cases b with
    | true => exact Post.of po1 re1
    | false => exact Cf.last re1 po1
def mAndV (m1 m2 : M D) : M D := mBind (mTest m1) fun b => if b then m2 else mPure (.bool false)
def mOrV (m1 m2 : M D) : M D := mBind (mTest m1) fun b => if b then mPure (.bool true) else m2
def mNotV (m : M D) : M D := mBind (mTest m) fun b => mPure (.bool (!b))
theorem bind_assoc {α β γ : Type} {m : M α} {f : α → M β} {h : β → M γ} (δ : Sx) : mBind (mBind m f) h δ = mBind m (fun a => mBind (f a) h) δ := by
  unfold mBind
  cases m δ <;> rfl
theorem testV {G : Hp} {g : Gh} {H : Hp} {σ : L2.St} {δ : Sx} {β : Type} {f : Bool → M β} {QQ : β → Gh → Hp → Sx → Prop} {K : Frag} {R : V → Hp → Prop} (re : RE K G g H σ δ) (po : Post K E G g σ (mBind (mTest m) f δ) QQ)
    (k : ∀ b g1 H1 δ1, Le g g1 → RE K G g1 H1 σ δ1 → Post K E G g1 σ (f b δ1) QQ → R (.bl b) H1) : tOf K E m σ H R := by
  unfold mTest at po
  rw [bind_assoc] at po
  refine tOf.step re po fun x d g1 H1 δ1 e1 re1 r1 po1 => ?_
  cases r1 with
  | bl b => exact k b g1 H1 δ1 e1 re1 po1
  | _ => exact po1.elim
theorem je_and (h : PE X a (tOf X.K E ma)) (h2 : PE X (.BoolOp .And (b :: rest) pos) (tOf X.K E mb)) : PE X (.BoolOp .And (a :: b :: rest) pos) (tOf X.K E (mAndV ma mb)) :=
  pe_imp (pe_and h h2) fun σ H Q ⟨G, g, δ, re, po⟩ => testV re po fun b g1 H1 δ1 e1 re1 po1 => ⟨b, rfl, by
    cases b with
    | true => exact Cf.last re1 po1
    | false => exact Post.of po1 re1 _ (.bl false)⟩
theorem je_one {op : BoolOp} (h : PE X a (tOf X.K E ma)) : PE X (.BoolOp op [a] pos) (tOf X.K E ma) := pe_one h
theorem je_not (h : PE X a (tOf X.K E ma)) : PE X (.UnaryOp .Not a pos) (tOf X.K E (mNotV ma)) :=
  pe_imp (pe_not h) fun σ H Q ⟨G, g, δ, re, po⟩ => testV re po fun b g1 H1 δ1 e1 re1 po1 => ⟨b, rfl, Post.of po1 re1 _ (.bl _)⟩
def mIfE (t : M Bool) (m1 m2 : M D) : M D := mBind t fun b => if b then m1 else m2
theorem je_if {c : Expr} (hc : PT X c (tOfT X.K E t1)) (h : PE X a (tOf X.K E ma)) (h2 : PE X b (tOf X.K E mb)) : PE X (.IfExp c a b pos) (tOf X.K E (mIfE t1 ma mb)) :=
  pe_imp (pe_ifExp hc h h2) fun σ H Q ⟨G, g, δ, re, po⟩ => tOfT.step re po fun b g1 H1 δ1 e1 re1 po1 => by
    cases b with
    | true => exact Cf.last re1 po1
    | false => exact Cf.last re1 po1
def mNeg (m : M D) : M D := mBind m fun d => mOpt (dNeg d)
theorem je_neg (h : PE X a (tOf X.K E ma)) : PE X (.UnaryOp .USub a pos) (tOf X.K E (mNeg ma)) :=
  pe_imp (pe_un un_neg h) fun σ H Q ⟨G, g, δ, re, po⟩ => tOf.step re po fun x d g1 H1 δ1 e1 re1 r1 po1 => by
    obtain ⟨c, hc, po3⟩ := Post.opt po1
    cases r1 <;> simp [dNeg] at hc
    subst hc
    exact ⟨_, rfl, Post.of po3 re1 _ (.int _)⟩
/-- a fresh list, as data, as one of the store's -/
def mFr (m : M (List Cl)) : M D := mBind m fun xs => mOpt ((shL xs).map PyData.list)
theorem je_fr {m : M (List Cl)} (h : PE X e (tOfO X.K E m)) : PE X e (tOf X.K E (mFr m)) :=
  pe_imp h fun σ H Q ⟨G, g, δ, re, po⟩ => tOfO.step re po fun a xs g1 H1 δ1 e1 re1 f1 po1 => by
    obtain ⟨d, hd, po2⟩ := Post.opt po1
    obtain ⟨ds, h1, h2⟩ := Option.map_eq_some_iff.mp hd
    subst h2
    obtain ⟨g2, k1, _, k2, k3⟩ := re1.freeze f1 h1
    exact po2 g2 H1 k1 k2 _ k3
def mAll (o : Ob) : M Nat := fun δ => .ok δ.s.length ⟨δ.e, δ.s ++ [o]⟩
def mNew (m : M (List Cl)) : M Nat := mBind m fun xs => mAll (.lst xs)
theorem allS {K : Frag} {G : Hp} {g : Gh} {H : Hp} {σ : L2.St} {δ : Sx} {a : Addr} {o : Ob} {QQ : Nat → Gh → Hp → Sx → Prop} (re : RE K G g H σ δ) (f : Fro K G g H a o) (po : Post K E G g σ (mAll o δ) QQ) : ∃ g', QQ δ.s.length g' H ⟨δ.e, δ.s ++ [o]⟩ ∧ g'.r[δ.s.length]? = some a := by
  obtain ⟨le, re'⟩ := re.alloc f
  refine ⟨_, po _ H le re', ?_⟩
  show (g.r ++ [a])[δ.s.length]? = some a
  rw [← re.rl, List.getElem?_append_right (Nat.le_refl _), Nat.sub_self]
  rfl
theorem jl_new {m : M (List Cl)} (h : PE X e (tOfO X.K E m)) : PE X e (tOfL X.K E (mNew m)) :=
  pe_imp h fun σ H Q ⟨G, g, δ, re, po⟩ => tOfO.step re po fun a xs g1 H1 δ1 e1 re1 f1 po1 => by
    obtain ⟨g2, k1, k2⟩ := allS re1 f1.fro po1
    exact k1 a k2
/-- a list of the store, at last data -/
def mSeal (m : M Nat) : M D := mBind m fun l δ => match δ.s[l]? with
  | some (.lst xs) => match shL xs with
    | some ds => .ok (.list ds) ⟨δ.e, δ.s.set l .gone⟩
    | none => .bad
  | _ => .bad
theorem je_seal {m : M Nat} (h : PE X e (tOfL X.K E m)) : PE X e (tOf X.K E (mSeal m)) :=
  pe_imp h fun σ H Q ⟨G, g, δ, re, po⟩ => tOfL.step re po fun a l g1 H1 δ1 e1 re1 f1 po1 => by
    split at po1
    · rename_i xs hx
      split at po1
      · rename_i ds hd
        obtain ⟨g2, k1, _, k2, k3⟩ := re1.seal hx f1 hd
        exact po1 g2 H1 k1 k2 _ k3
      · exact po1.elim
    · exact po1.elim
end
end Ds
namespace Ds
open PySem PySem.Spec PyProof.Rows L2 Dn
def evA : List (M Cl) → M (List Cl)
  | [] => mPure []
  | m :: as => mBind m fun c => mBind (evA as) fun cs => mPure (c :: cs)
/-- what a cell holds now, as data -/
def snap (s : List Ob) : Cl → Option D
  | .sh d => some d
  | .lo l => match s[l]? with
    | some (.lst xs) => (shL xs).map PyData.list
    | _ => none
  | .no => none
def snaps (s : List Ob) : List Cl → Option (List D)
  | [] => some []
  | c :: cs => (snap s c).bind fun d => (snaps s cs).map (d :: ·)
section
variable {K : Frag} {G : Hp} {g : Gh} {H : Hp} {σ : L2.St} {δ : Sx}
theorem RE.lstAt (r : RE K G g H σ δ) {l : Nat} {a : Addr} {xs : List Cl} (h : g.r[l]? = some a) (hx : δ.s[l]? = some (.lst xs)) : ∃ vs, H a = some (.lst vs) ∧ All2 (CR K g) vs xs := by
  obtain ⟨b, u, h1, h2, h3, h4⟩ := r.ob l _ hx rfl
  rw [h] at h1
  cases h1
  cases h3 with
  | lst h3 => exact ⟨_, h2, h3⟩
theorem snap_lo {s : List Ob} {l : Nat} {d : D} (h : snap s (.lo l) = some d) : ∃ xs ds, s[l]? = some (.lst xs) ∧ shL xs = some ds ∧ d = .list ds := by
  have h : (match s[l]? with
    | some (.lst xs) => (shL xs).map PyData.list
    | _ => none) = some d := h
  split at h
  · rename_i xs hx
    obtain ⟨ds, h3, h4⟩ := Option.map_eq_some_iff.mp h
    exact ⟨xs, ds, hx, h3, h4.symm⟩
  · cases h
/-- new things of no account -/
theorem Post.late {E : XQ} {α : Type} {a : α} {H' : Hp} {QQ : α → Gh → Hp → Sx → Prop} (po : Post K E G g σ (.ok a δ) QQ) (r : RE K G g H σ δ) (e : Ex H H') : QQ a g H' δ := po g H' (Le.refl _) (r.newH e)
end
section
variable {X : Cx} {E : XQ} {a b e o : Expr} {es : List Expr} {pos : Pos} {ma mb m : M D} {mc mk : M Cl} {as : List (M Cl)}
theorem ja_nil : PA X [] (tOfA X.K E (evA [])) := pa_imp pa_nil fun σ H Q ⟨G, g, δ, re, po⟩ => Post.of po re [] .nil
theorem ja_c (h : PE X e (tOfC X.K E mc)) (t : PA X es (tOfA X.K E (evA as))) (hs : starEach (e :: es) X.env = (false, eval e X.env) :: starEach es X.env := by rfl) : PA X (e :: es) (tOfA X.K E (evA (mc :: as))) :=
  pa_imp (pa_cons h t hs) fun σ H Q ⟨G, g, δ, re, po⟩ => tOfC.step re po fun v c g1 H1 δ1 e1 re1 r1 po1 => tOfA.step re1 po1 fun vs cs g2 H2 δ2 e2 re2 r2 po2 => Post.of po2 re2 (v :: vs) (.cons (r1.le e2) r2)
def mCallB (f : List D → Option D) (as : List (M Cl)) : M D := mBind (evA as) fun cs => mOpt ((shL cs).bind f)
/-- lists of the store may stand among the arguments; what comes back is flat -/
def mCallC (f : List D → Option D) (as : List (M Cl)) : M D := mBind (evA as) fun cs δ => match (snaps δ.s cs).bind f with
  | some d => if flatD d = true then .ok d δ else .bad
  | none => .bad
theorem callS {r : List V → Hp → VK → Prop} {f : List D → Option D} (hr : CallS X.K r f) {σ : L2.St} {H : Hp} {Q : VK} (h : tOf X.K E (mCallB f as) σ H Q) : tCB r (tOfA X.K E (evA as)) σ H Q := by
  obtain ⟨G, g, δ, re, po⟩ := h
  refine tOfA.step re po fun vs cs g1 H1 δ1 e1 re1 r1 po1 => ?_
  obtain ⟨c, hc, po2⟩ := Post.opt po1
  obtain ⟨ds, h1, h2⟩ := Option.bind_eq_some_iff.mp hc
  exact hr g1.h H1 vs ds c Q re1.ex (shL_rps r1 h1) h2 fun v Hs' H' w rv => Post.grow po2 re1 (Grw.of w) v rv
theorem je_callB {x : Str} {p : Pos} {id : String} {r : List V → Hp → VK → Prop} {f : List D → Option D} (hc : CallR X (.builtin id) r) (hr : CallS X.K r f) (hg : Gl X x) (hm : X.mg x = none) (hv : bootBuiltins x = some (.builtin id)) (ha : PA X (e :: es) (tOfA X.K E (evA as))) (hn : x ≠ "__name__" := by decide) (hdb : (x == ("__debug__" : Str)) = false := by decide)
    (he : starEach (e :: es) X.env = (false, eval e X.env) :: starEach es X.env := by rfl) (hpl : (backTo pos (starEach es X.env)).any (·.1) = false := by rfl) : PE X (.Call (.Name x p) (e :: es) [] pos) (tOf X.K E (mCallB f as)) :=
  pe_imp (pe_callB hc hg hm hv ha hn hdb he hpl) fun _ _ _ h => callS hr h
theorem je_callTy {x : Str} {p : Pos} {T : String} {r : List V → Hp → VK → Prop} {f : List D → Option D} (hc : CallR X (.type T) r) (hr : CallS X.K r f) (hg : Gl X x) (hm : X.mg x = none) (hv : bootBuiltins x = some (.type T)) (ha : PA X (e :: es) (tOfA X.K E (evA as))) (hn : x ≠ "__name__" := by decide) (hdb : (x == ("__debug__" : Str)) = false := by decide)
    (he : starEach (e :: es) X.env = (false, eval e X.env) :: starEach es X.env := by rfl) (hpl : (backTo pos (starEach es X.env)).any (·.1) = false := by rfl) : PE X (.Call (.Name x p) (e :: es) [] pos) (tOf X.K E (mCallB f as)) :=
  pe_imp (pe_callTy hc hg hm hv ha hn hdb he hpl) fun _ _ _ h => callS hr h
/-- list(x): a fresh one -/
def itemsD : D → Option (List D)
  | .list xs => some xs
  | .tuple xs => some xs
  | _ => none
def mListOf (mc : M Cl) : M (List Cl) := mBind (evA [mc]) fun cs δ => match snaps δ.s cs with
  | some [d] => match itemsD d with
    | some xs => .ok (xs.map Cl.sh) δ
    | none => .bad
  | _ => .bad
theorem FrO.new {K : Frag} {G : Hp} {g : Gh} {H : Hp} {σ : L2.St} {δ : Sx} {p : Addr} {vs : List V} {xs : List Cl} (re : RE K G g H σ δ) (hp : H p = none) (h : All2 (CR K g) vs xs) : FrO K G g (upd H p (.lst vs)) p xs :=
  ⟨⟨vs, upd_same, h⟩, ex_none re.ex hp, (by
    cases q : G p with
    | none => rfl
    | some u => have := (re.fg p u q).1; rw [hp] at this; cases this), re.nin hp⟩
/-- the items of a list or tuple: in the store, or data -/
theorem snap_items {K : Frag} {G : Hp} {g : Gh} {H : Hp} {σ : L2.St} {δ : Sx} (r : RE K G g H σ δ) {v : V} {c : Cl} {d : D} {xs : List D} (h : CR K g v c) (hs : snap δ.s c = some d) (hi : itemsD d = some xs) : ∃ p ys, v = .ref p ∧ (SqL K H p ys ∨ SqT K H p ys) ∧ Rps K g.h ys xs := by
  cases h with
  | sh h =>
    cases hs
    cases h with
    | lst h1 t => cases hi; exact ⟨_, _, rfl, .inl (sqL_ex r.ex h1), t⟩
    | tup h1 t => cases hi; exact ⟨_, _, rfl, .inr (sqT_ex r.ex h1), t⟩
    | _ => cases hi
  | lo h =>
    obtain ⟨ys, ds, hx, h3, rfl⟩ := snap_lo hs
    obtain ⟨vs, h1, h2⟩ := r.lstAt h hx
    cases hi
    exact ⟨_, vs, rfl, .inl (SqL.of h1), shL_rps h2 h3⟩
/-- tuple(x), x one of the store's -/
def mTupOf (mc : M Cl) : M D := mBind (evA [mc]) fun cs δ => match snaps δ.s cs with
  | some [d] => match itemsD d with
    | some xs => .ok (.tuple xs) δ
    | none => .bad
  | _ => .bad
theorem snaps_one {K : Frag} {g : Gh} {δ : Sx} {vs : List V} {cs : List Cl} {d : D} (r1 : All2 (CR K g) vs cs) (hd : snaps δ.s cs = some [d]) : ∃ v c, vs = [v] ∧ cs = [c] ∧ CR K g v c ∧ snap δ.s c = some d := by
  cases r1 with
  | nil => cases hd
  | cons h t =>
    unfold snaps at hd
    obtain ⟨d1, h1, h2⟩ := Option.bind_eq_some_iff.mp hd
    obtain ⟨es, h3, h4⟩ := Option.map_eq_some_iff.mp h2
    cases t with
    | nil =>
      cases h3
      cases h4
      exact ⟨_, _, rfl, rfl, h, h1⟩
    | cons _ _ =>
      unfold snaps at h3
      obtain ⟨d2, h5, h6⟩ := Option.bind_eq_some_iff.mp h3
      obtain ⟨es', h7, h8⟩ := Option.map_eq_some_iff.mp h6
      subst h8
      cases h4
theorem je_tupOf {p : Pos} (hg : Gl X "tuple") (hm : X.mg "tuple" = none) (hv : bootBuiltins "tuple" = some (.type "tuple")) (h : PE X e (tOfC X.K E mc))
    (he : starEach [e] X.env = (false, eval e X.env) :: starEach [] X.env := by rfl) (hpl : (backTo pos (starEach [] X.env)).any (·.1) = false := by rfl) : PE X (.Call (.Name "tuple" p) [e] [] pos) (tOf X.K E (mTupOf mc)) :=
  pe_imp (pe_callTy call_tuple_of hg hm hv (ja_c h ja_nil he) (by decide) (by decide) he hpl) fun σ H Q ⟨G, g, δ, re, po⟩ => by
    refine tOfA.step re po fun vs cs g1 H1 δ1 e1 re1 r1 po1 => ?_
    split at po1
    · rename_i d hd
      split at po1
      · rename_i xs hx
        obtain ⟨v, c, rfl, rfl, hc, hs⟩ := snaps_one r1 hd
        cases hc with
        | sh h =>
          cases hs
          cases h with
          | lst h1 t =>
            cases hx
            exact ⟨_, _, rfl, .inl ⟨sqL_ex re1.ex h1, fun p hp => Post.grow po1 re1 (Grw.new re1.ex hp) _ (.tup (StT.of upd_same) (t.ex (Gr.new re1.ex hp).s))⟩⟩
          | tup h1 t =>
            cases hx
            exact ⟨_, _, rfl, .inr ⟨sqT_ex re1.ex h1, Post.of po1 re1 _ (.tup h1 t)⟩⟩
          | _ => cases hx
        | lo h =>
          obtain ⟨ys, ds, hxs, h3, rfl⟩ := snap_lo hs
          obtain ⟨vs, h1, h2⟩ := re1.lstAt h hxs
          cases hx
          exact ⟨_, vs, rfl, .inl ⟨SqL.of h1, fun p hp => Post.grow po1 re1 (Grw.new re1.ex hp) _ (.tup (StT.of upd_same) ((shL_rps h2 h3).ex (Gr.new re1.ex hp).s))⟩⟩
      · exact po1.elim
    · exact po1.elim
def mBinC (f : D → D → Option D) (mc mk : M Cl) : M D := mBind mc fun c => mBind mk fun k δ => match (snap δ.s c).bind fun d => (snap δ.s k).bind fun e => f d e with
  | some d => if flatD d = true then .ok d δ else .bad
  | none => .bad
def ixC (s : List Ob) (c : Cl) (e : D) : Option Cl := match c with
  | .sh d => (dIx d e).map Cl.sh
  | .lo l => match s[l]?, e with
    | some (.lst xs), .int i => atI xs i
    | _, _ => none
  | .no => none
def mIxC (mc : M Cl) (m : M D) : M Cl := mBind mc fun c => mBind m fun e δ => match ixC δ.s c e with
  | some k => .ok k δ
  | none => .bad
theorem atI_all2 {α β : Type} {R : α → β → Prop} {vs : List α} {ds : List β} {i : Int} {d : β} (t : All2 R vs ds) (h : atI ds i = some d) : ∃ v, atI vs i = some v ∧ R v d := by
  unfold atI at h ⊢
  rw [t.length]
  cases q : ixN ds.length i with
  | none => rw [q] at h; simp at h
  | some j =>
    rw [q] at h
    simp only [Option.bind_some] at h ⊢
    exact t.get h
theorem jc_ix (ha : PE X a (tOfC X.K E mc)) (hb : PE X b (tOf X.K E m)) (hs : PlainIx b) : PE X (.Subscript a b pos) (tOfC X.K E (mIxC mc m)) :=
  pe_imp (pe_ix ix_seq ha hb hs) fun σ H Q ⟨G, g, δ, re, po⟩ => by
    refine tOfC.step re po fun x c g1 H1 δ1 e1 re1 r1 po1 => ?_
    refine tOf.step re1 po1 fun y e g2 H2 δ2 e2 re2 r2 po2 => ?_
    split at po2
    · rename_i k hk
      cases r1 with
      | sh h =>
        obtain ⟨d, h1, h2⟩ := Option.map_eq_some_iff.mp hk
        subst h2
        exact os_ix g2.h H2 x y _ e d Q re2.ex (h.ex e2.h) r2 h1 fun v Hs' H' w rv => Post.grow po2 re2 (Grw.of w) v (.sh rv)
      | lo h =>
        unfold ixC at hk
        dsimp only at hk
        split at hk
        · rename_i xs i hx
          obtain ⟨vs, h1, h2⟩ := re2.lstAt (e2.r _ _ h) hx
          obtain ⟨v, h3, h4⟩ := atI_all2 h2 hk
          cases r2
          exact .inl ⟨_, vs, i, v, rfl, rfl, SqL.of h1, h3, Post.of po2 re2 v h4⟩
        · cases hk
    · exact po2.elim
def mSlC (mc : M Cl) (ml mh : M (Option Int)) : M D := mBind mc fun c => mBind ml fun l => mBind mh fun h δ => match snap δ.s c with
  | some d => match dSl d l h with
    | some e => .ok e δ
    | none => .bad
  | none => .bad
def mIsi (T : String) (m : M D) : M D := mBind m fun d => mOpt ((kitB (tyD d) T).map PyData.bool)
theorem je_isi {T : Str} {T' : String} {p p' : Pos} (h : PE X e (tOf X.K E m)) (hg : Gl X "isinstance") (hm : X.mg "isinstance" = none) (hgT : Gl X T) (hmT : X.mg T = none) (hvT : bootBuiltins T = some (.type T')) (hnT : T ≠ "__name__" := by decide) (hdT : (T == ("__debug__" : Str)) = false := by decide)
    (he : starEach (e :: [.Name T p']) X.env = (false, eval e X.env) :: starEach [.Name T p'] X.env := by rfl) (he2 : starEach [.Name T p'] X.env = (false, eval (.Name T p') X.env) :: starEach [] X.env := by rfl) (hpl : (backTo pos (starEach [.Name T p'] X.env)).any (·.1) = false := by rfl) :
    PE X (.Call (.Name "isinstance" p) [e, .Name T p'] [] pos) (tOf X.K E (mIsi T' m)) :=
  pe_imp (pe_callB call_isi hg hm (by decide +kernel) (pa_cons h (pa_cons (pe_bltn (v := .ty T') hgT hmT hvT rfl hnT hdT) pa_nil he2) he) (by decide) (by decide) he hpl) fun σ H Q ⟨G, g, δ, re, po⟩ => by
    refine tOf.step re po fun v d g1 H1 δ1 e1 re1 r1 po1 => ?_
    obtain ⟨c, hc, po2⟩ := Post.opt po1
    obtain ⟨b, hb, hc⟩ := Option.map_eq_some_iff.mp hc
    subst hc
    exact ⟨v, .ty T', _, _, b, rfl, .ty T', ty_of re1.ex r1, kit_ty hb, Post.of po2 re1 _ (.bl b)⟩
def mM1 (f : Str → List D → Option D) (mo m : M D) : M D := mBind mo fun d => mBind (mOpt (toS d)) fun z => mBind m fun e => mOpt (f z [e])
def mM1C (f : Str → List D → Option D) (mo : M D) (mc : M Cl) : M D := mBind mo fun d => mBind (mOpt (toS d)) fun z => mBind mc fun c δ => match (snap δ.s c).bind fun e => f z [e] with
  | some d => if flatD d = true then .ok d δ else .bad
  | none => .bad
def mShs (as : List (M Cl)) : M (List D) := mBind (evA as) fun cs => mOpt ((shL cs).filter fun ds => decide (ds.length ≤ sizeLine))
def mTup (as : List (M Cl)) : M D := mBind (mShs as) fun ds => mPure (.tuple ds)
def mLst (as : List (M Cl)) : M D := mBind (mShs as) fun ds => mPure (.list ds)
def mLsO (as : List (M Cl)) : M (List Cl) := mBind (evA as) fun cs => mOpt (if cs.length ≤ sizeLine then some cs else none)
theorem mShs_step {G : Hp} {g : Gh} {H : Hp} {σ : L2.St} {δ : Sx} {β : Type} {f : List D → M β} {QQ : β → Gh → Hp → Sx → Prop} {K : Frag} {R : List V → Hp → Prop} (re : RE K G g H σ δ) (po : Post K E G g σ (mBind (mShs as) f δ) QQ)
    (k : ∀ vs ds g1 H1 δ1, Le g g1 → RE K G g1 H1 σ δ1 → Rps K g1.h vs ds → vs.length ≤ sizeLine → Post K E G g1 σ (f ds δ1) QQ → R vs H1) : tOfA K E (evA as) σ H R := by
  unfold mShs at po
  rw [bind_assoc] at po
  refine tOfA.step re po fun vs cs g1 H1 δ1 e1 re1 r1 po1 => ?_
  obtain ⟨ds, hc, po2⟩ := Post.optB po1
  obtain ⟨h1, h2⟩ := Option.filter_eq_some_iff.mp hc
  have t := shL_rps r1 h1
  exact k vs ds g1 H1 δ1 e1 re1 t (by rw [t.length]; exact of_decide_eq_true h2) po2
theorem je_tup {x1} (h : PA X es (tOfA X.K E (evA as))) : PE X (.Tuple es x1 pos) (tOf X.K E (mTup as)) :=
  pe_imp (pe_tup h) fun σ H Q ⟨G, g, δ, re, po⟩ => mShs_step re po fun vs ds g1 H1 δ1 e1 re1 t hl po1 => ⟨hl, fun p hpn =>
    Post.grow po1 re1 (Grw.new re1.ex hpn) _ (.tup (StT.of upd_same) (t.ex (Gr.new re1.ex hpn).s))⟩
theorem je_lst (h : PA X es (tOfA X.K E (evA as))) : PE X (.List es pos) (tOf X.K E (mLst as)) :=
  pe_imp (pe_lst h) fun σ H Q ⟨G, g, δ, re, po⟩ => mShs_step re po fun vs ds g1 H1 δ1 e1 re1 t hl po1 => ⟨hl, fun p hpn =>
    Post.grow po1 re1 (Grw.new re1.ex hpn) _ (.lst (SqL.of upd_same) (t.ex (Gr.new re1.ex hpn).s))⟩
theorem jo_lst (h : PA X es (tOfA X.K E (evA as))) : PE X (.List es pos) (tOfO X.K E (mLsO as)) :=
  pe_imp (pe_lst h) fun σ H Q ⟨G, g, δ, re, po⟩ => tOfA.step re po fun vs cs g1 H1 δ1 e1 re1 r1 po1 => by
    obtain ⟨ds, hc, po2⟩ := Post.opt po1
    split at hc
    · rename_i hl
      cases hc
      exact ⟨by rw [r1.length]; exact hl, fun p hpn => Post.late po2 re1 (ex_new hpn) p (FrO.new re1 hpn r1)⟩
    · cases hc
/-- a list of data, fresh: what was made as data stays data; here for a + b with lists of the store -/
def mCatO (mc mk : M Cl) : M (List Cl) := mBind mc fun c => mBind mk fun k δ => match snap δ.s c, snap δ.s k with
  | some (.list xs), some (.list ys) => if xs.length + ys.length ≤ sizeLine then .ok ((xs ++ ys).map Cl.sh) δ else .bad
  | _, _ => .bad
end
end Ds
namespace Ds
open PySem PySem.Spec PyProof.Rows L2 Dn
inductive Fl where
  | nx
  | rt (c : Cl)
  | bk
  | ct
def FlOk (K : Frag) (B : Ends) (fl : Fl) (σ : L2.St) (g : Gh) (H : Hp) : Prop := match fl with
  | .nx => B.nx σ H
  | .bk => B.bk σ H
  | .ct => B.ct σ H
  | .rt c => ∀ v, CR K g v c → B.rt v H
def PostS (K : Frag) (E : XQ) (G : Hp) (g : Gh) (r : Res Fl) (b : Fl → L2.St → Gh → Hp → Sx → Prop) : Prop := match r with
  | .ok fl δ' => ∀ σ' g' H', Le g g' → RE K G g' H' σ' δ' → b fl σ' g' H' δ'
  | .exc x δ' => ∀ σ' g' H', Le g g' → RE K G g' H' σ' δ' → E x σ' H'
  | .bad => False
abbrev PostF (K : Frag) (E : XQ) (G : Hp) (g : Gh) (r : Res Fl) (B : Ends) : Prop := PostS K E G g r fun fl σ' g' H' _ => FlOk K B fl σ' g' H'
theorem PostS.ex {K : Frag} {E : XQ} {G : Hp} {g g1 : Gh} {r : Res Fl} {b : Fl → L2.St → Gh → Hp → Sx → Prop} (h : PostS K E G g r b) (e : Le g g1) : PostS K E G g1 r b := by
  cases r with
  | ok a δ' => exact fun σ' g' H' e' r => h σ' g' H' (e.trans e') r
  | exc x δ' => exact fun σ' g' H' e' r => h σ' g' H' (e.trans e') r
  | bad => exact h
def tOfS (K : Frag) (E : XQ) (m : M Fl) : TS := fun B σ H => ∃ (G : Hp) (g : Gh) (δ : Sx), RE K G g H σ δ ∧ PostF K E G g (m δ) B
section
variable {K : Frag} {E : XQ} {G : Hp} {g : Gh} {H : Hp} {σ : L2.St} {δ : Sx} {B : Ends}
theorem Cf.stepS {α : Type} {ma : M α} {f : α → M Fl} {R : Hp → α → Gh → Hp → Sx → Prop} (re : RE K G g H σ δ) (po : PostF K E G g (mBind ma f δ) B)
    (k : ∀ a g1 H1 δ1, Le g g1 → RE K G g1 H1 σ δ1 → PostF K E G g1 (f a δ1) B → R G a g1 H1 δ1) : Cf K E ma σ H R := by
  refine ⟨G, g, δ, re, ?_⟩
  unfold mBind at po
  cases h : ma δ with
  | ok a δ1 =>
    rw [h] at po
    exact fun g' H' e r => k a g' H' δ1 e r (PostS.ex po e)
  | exc x δ1 =>
    rw [h] at po
    exact fun g' H' e r => po σ g' H' e r
  | bad =>
    rw [h] at po
    exact po
theorem tOf.stepS {ma : M D} {f : D → M Fl} {R : V → Hp → Prop} (re : RE K G g H σ δ) (po : PostF K E G g (mBind ma f δ) B)
    (k : ∀ v d g1 H1 δ1, Le g g1 → RE K G g1 H1 σ δ1 → Rp K g1.h v d → PostF K E G g1 (f d δ1) B → R v H1) : tOf K E ma σ H R :=
  Cf.stepS re po fun d g1 H1 δ1 e r p v rv => k v d g1 H1 δ1 e r rv p
theorem tOfC.stepS {ma : M Cl} {f : Cl → M Fl} {R : V → Hp → Prop} (re : RE K G g H σ δ) (po : PostF K E G g (mBind ma f δ) B)
    (k : ∀ v c g1 H1 δ1, Le g g1 → RE K G g1 H1 σ δ1 → CR K g1 v c → PostF K E G g1 (f c δ1) B → R v H1) : tOfC K E ma σ H R :=
  Cf.stepS re po fun c g1 H1 δ1 e r p v rv => k v c g1 H1 δ1 e r rv p
theorem tOfL.stepS {ma : M Nat} {f : Nat → M Fl} {R : V → Hp → Prop} (re : RE K G g H σ δ) (po : PostF K E G g (mBind ma f δ) B)
    (k : ∀ a l g1 H1 δ1, Le g g1 → RE K G g1 H1 σ δ1 → g1.r[l]? = some a → PostF K E G g1 (f l δ1) B → R (.ref a) H1) : tOfL K E ma σ H R :=
  Cf.stepS re po fun l g1 H1 δ1 e r p a ha => k a l g1 H1 δ1 e r ha p
theorem PostS.of {fl : Fl} {b : Fl → L2.St → Gh → Hp → Sx → Prop} (po : PostS K E G g (.ok fl δ) b) (re : RE K G g H σ δ) : b fl σ g H δ := po σ g H (Le.refl _) re
end
section
variable {X : Cx} {E : XQ} {a b e o : Expr} {st : Stmt} {rest : List Stmt} {pos : Pos} {m mi : M D} {mc : M Cl} {ml : M Nat} {m1 m2 : M Fl}
def mSeq (m1 m2 : M Fl) : M Fl := fun δ => match m1 δ with
  | .ok .nx δ' => m2 δ'
  | r => r
def mNx : M Fl := mPure .nx
theorem jss_nil : PSs X [] (tOfS X.K E mNx) := pss_imp pss_nil fun B σ H ⟨G, g, δ, re, po⟩ => PostS.of po re
theorem jss_one (h : PS X st (tOfS X.K E m1)) : PSs X [st] (tOfS X.K E m1) := pss_one h
theorem jss_cons (h : PS X st (tOfS X.K E m1)) (t : PSs X rest (tOfS X.K E m2)) : PSs X (st :: rest) (tOfS X.K E (mSeq m1 m2)) :=
  pss_imp (pss_cons h t) fun B σ H ⟨G, g, δ, re, po⟩ => by
    refine ⟨G, g, δ, re, ?_⟩
    unfold mSeq at po
    cases q : m1 δ with
    | ok fl δ1 =>
      rw [q] at po
      cases fl with
      | nx => exact fun σ' g' H' e r => ⟨G, g', δ1, r, PostS.ex po e⟩
      | rt s => exact po
      | bk => exact po
      | ct => exact po
    | exc x δ1 =>
      rw [q] at po
      exact po
    | bad =>
      rw [q] at po
      exact po
def mExpr (m : M Cl) : M Fl := mBind m fun _ => mNx
theorem js_expr (h : PE X e (tOfC X.K E mc)) (hs : swapsWith e none pos.line X.env = pure false := by rfl) : PS X (.Expr e pos) (tOfS X.K E (mExpr mc)) :=
  pst_imp (ps_expr h hs) fun B σ H ⟨G, g, δ, re, po⟩ => tOfC.stepS re po fun v d g1 H1 δ1 e1 re1 r1 po1 => PostS.of po1 re1
def mRet (m : M Cl) : M Fl := mBind m fun c => mPure (.rt c)
theorem js_ret (h : PE X e (tOfC X.K E mc)) : PS X (.Return (some e) pos) (tOfS X.K E (mRet mc)) :=
  pst_imp (ps_ret h) fun B σ H ⟨G, g, δ, re, po⟩ => tOfC.stepS re po fun v d g1 H1 δ1 e1 re1 r1 po1 => PostS.of po1 re1 v r1
def mIfS (t : M Bool) (m1 m2 : M Fl) : M Fl := mBind t fun b => if b then m1 else m2
theorem js_if {c : Expr} {sa sb : List Stmt} {t : M Bool} (hc : PT X c (tOfT X.K E t)) (h1 : PSs X sa (tOfS X.K E m1)) (h2 : PSs X sb (tOfS X.K E m2)) : PS X (.If c sa sb pos) (tOfS X.K E (mIfS t m1 m2)) :=
  pst_imp (ps_if hc h1 h2) fun B σ H ⟨G, g, δ, re, po⟩ => Cf.stepS re po fun b g1 H1 δ1 e1 re1 po1 => by
    cases b with
    | true => exact ⟨G, g1, δ1, re1, po1⟩
    | false => exact ⟨G, g1, δ1, re1, po1⟩
/-- x = e -/
def mSet (i : Nat) (m : M Cl) : M Fl := mBind m fun c => fun δ => .ok .nx ⟨δ.e.set i c, δ.s⟩
theorem js_set {i : Nat} {x : Str} {pos' : Pos} (hN : X.N.Nodup) (hi : X.N[i]? = some x) (hx : Loc X.env.scope x) (h : PE X e (tOfC X.K E mc)) (hs : swapsWith e (some (.Name x pos')) pos.line X.env = pure false := by rfl) (hf : X.fn x = true ∨ X.env.scope.names.lookup x = some .local := by first | exact .inl rfl | exact .inr rfl | assumption) :
    PS X (.Assign [.Name x pos'] e pos) (tOfS X.K E (mSet i mc)) :=
  pst_imp (ps_set hN hi hx h hs hf) fun B σ H ⟨G, g, δ, re, po⟩ => tOfC.stepS re po fun v d g1 H1 δ1 e1 re1 r1 po1 => PostS.of po1 (re1.set r1)
/-- y[i] = e, y a list of the store -/
def mSetIx (ml : M Nat) (mi : M D) (mc : M Cl) : M Fl := mBind mc fun c => mBind ml fun l => mBind mi fun e δ => match δ.s[l]?, e with
  | some (.lst xs), .int n => match ixN xs.length n with
    | some j => .ok .nx ⟨δ.e, δ.s.set l (.lst (xs.set j c))⟩
    | none => .bad
  | _, _ => .bad
theorem js_setIx {p' : Pos} {i v : Expr} (ho : PE X o (tOfL X.K E ml)) (hi : PE X i (tOf X.K E mi)) (he : PE X v (tOfC X.K E mc))
    (ha : ∀ v, assign (.Subscript o i p') X.env v = (do
      let ov ← holding [v] (eval o X.env)
      let iv ← holding [v, ov] (eval i X.env)
      standAt p'
      holding [v, ov, iv] (setItem ov iv v)
      release [v, ov, iv] []) := by intro _; rfl)
    (hs : swapsWithSole [.Subscript o i p'] v pos.line X.env = pure false := by rfl) (hw : swappedStores [.Subscript o i p'] v X.env = pure none := by rfl)
    (h1 : (assignEach [.Subscript o i p'] X.env).map (·.2) = [assign (.Subscript o i p') X.env] := by rfl) : PS X (.Assign [.Subscript o i p'] v pos) (tOfS X.K E (mSetIx ml mi mc)) :=
  pst_imp (ps_asg he (pg_sub ho hi set_list ha) hs hw h1) fun B σ H ⟨G, g, δ, re, po⟩ => by
    refine tOfC.stepS re po fun w c g1 H1 δ1 e1 re1 r1 po1 => ?_
    refine tOfL.stepS re1 po1 fun q l g2 H2 δ2 e2 re2 r2 po2 => ?_
    refine tOf.stepS re2 po2 fun u d g3 H3 δ3 e3 re3 r3 po3 => ?_
    split at po3
    · rename_i xs n hx
      split at po3
      · rename_i j hj
        cases r3
        have ha' := e3.r _ _ r2
        obtain ⟨vs, h1, h2⟩ := re3.lstAt ha' hx
        refine ⟨q, vs, _, j, rfl, rfl, h1, by rw [h2.length]; exact hj, ?_⟩
        exact PostS.of po3 (re3.write hx rfl ha' (.lst (h2.set ((r1.le e2).le e3) j)))
      · exact po3.elim
    · exact po3.elim
theorem RE.ty {K : Frag} {G : Hp} {g : Gh} {H : Hp} {σ : L2.St} {δ : Sx} (re : RE K G g H σ δ) {l : Nat} {q : Addr} {xs : List Cl} (h : g.r[l]? = some q) (hx : δ.s[l]? = some (.lst xs)) : tyV K "list" (.ref q) H := by
  obtain ⟨vs, h1, h2⟩ := re.lstAt h hx
  exact .inl ⟨rfl, vs, .inl (.inl h1)⟩
/-- y.append(e) -/
def isLst (l : Nat) : M Nat := fun δ => match δ.s[l]? with
  | some (.lst _) => .ok l δ
  | _ => .bad
theorem isLst_ok (l : Nat) (δ : Sx) : isLst l δ = .bad ∨ ∃ xs, δ.s[l]? = some (.lst xs) ∧ isLst l δ = .ok l δ := by
  unfold isLst
  split
  · rename_i xs h
    exact .inr ⟨xs, h, rfl⟩
  · exact .inl rfl
def mIsL (ml : M Nat) : M Nat := mBind ml isLst
def mApp (ml : M Nat) (mc : M Cl) : M Fl := mBind (mIsL ml) fun l => mBind mc fun c δ => match δ.s[l]? with
  | some (.lst xs) => if xs.length < sizeLine then .ok .nx ⟨δ.e, δ.s.set l (.lst (xs ++ [c]))⟩ else .bad
  | _ => .bad
theorem isLS {K : Frag} {G : Hp} {g : Gh} {H : Hp} {σ : L2.St} {δ : Sx} {B : Ends} {f : Nat → M Fl} {R : V → Hp → Prop} (re : RE K G g H σ δ) (po : PostF K E G g (mBind (mIsL ml) f δ) B)
    (k : ∀ a l g1 H1 δ1, Le g g1 → RE K G g1 H1 σ δ1 → g1.r[l]? = some a → tyV K "list" (.ref a) H1 → PostF K E G g1 (f l δ1) B → R (.ref a) H1) : tOfL K E ml σ H R := by
  unfold mIsL at po
  rw [bind_assoc] at po
  refine tOfL.stepS re po fun a l g1 H1 δ1 e1 re1 r1 po1 => ?_
  have z : ∃ xs, δ1.s[l]? = some (.lst xs) ∧ PostF K E G g1 (f l δ1) B := by
    unfold mBind at po1
    rcases isLst_ok l δ1 with h | ⟨xs, hx, h⟩
    · rw [h] at po1; exact po1.elim
    · rw [h] at po1; exact ⟨xs, hx, po1⟩
  obtain ⟨xs, hx, po2⟩ := z
  exact k a l g1 H1 δ1 e1 re1 r1 (re1.ty r1 hx) po2
theorem js_app {apos cpos : Pos} {v : Expr} (ho : PE X o (tOfL X.K E ml)) (he : PE X v (tOfC X.K E mc))
    {PE0 : PE X (.Call (.Attribute o "append" apos) [v] [] cpos) (tBM X.K "list" rAppend (tOfL X.K E ml) (tCons (tOfC X.K E mc) tNil))}
    (hs : swapsWith (.Call (.Attribute o "append" apos) [v] [] cpos) none pos.line X.env = pure false := by rfl) : PS X (.Expr (.Call (.Attribute o "append" apos) [v] [] cpos) pos) (tOfS X.K E (mApp ml mc)) :=
  pst_imp (ps_expr PE0 hs) fun B σ H ⟨G, g, δ, re, po⟩ => by
    show tBM _ _ _ _ _ _ _ _
    unfold tBM
    refine isLS re po fun q l g1 H1 δ1 e1 re1 r1 ht po1 => ⟨ht, ?_⟩
    refine tOfC.stepS re1 po1 fun w c g2 H2 δ2 e2 re2 r2 po2 => ?_
    split at po2
    · rename_i xs hx
      split at po2
      · rename_i hl
        have ha' := e2.r _ _ r1
        obtain ⟨vs, h1, h2⟩ := re2.lstAt ha' hx
        refine ⟨q, vs, w, rfl, rfl, h1, by rw [h2.length]; exact hl, ?_⟩
        exact PostS.of po2 (re2.write hx rfl ha' (.lst (h2.snoc r2)))
      · exact po2.elim
    · exact po2.elim
/-- y.pop(i) -/
def mPopAt (ml : M Nat) (mi : M D) : M Cl := mBind (mIsL ml) fun l => mBind mi fun e δ => match δ.s[l]?, e with
  | some (.lst xs), .int n => if 0 ≤ n ∧ n < xs.length ∧ xs.length ≤ sizeLine then match xs[n.toNat]? with
    | some c => .ok c ⟨δ.e, δ.s.set l (.lst (xs.eraseIdx n.toNat))⟩
    | none => .bad
    else .bad
  | _, _ => .bad
end
end Ds
namespace Ds
open PySem PySem.Spec PyProof.Rows L2 Dn
abbrev MG (α : Type) := α → List Cl → Option (List Cl)
def gOf (K : Frag) (gv : List Nat) (mg : MG Cl) : TG := fun v σ H Q => ∃ (G : Hp) (g : Gh) (δ : Sx) (c : Cl), RE K G g H σ δ ∧ CR K g v c ∧
  ∃ e', mg c δ.e = some e' ∧ ∀ σ', RE K G g H σ' ⟨e', δ.s⟩ → Off gv σ σ' → Q σ' H
def gOfs (K : Frag) (gv : List Nat) (mg : MG (List Cl)) : TGs := fun vs σ H Q => ∃ (G : Hp) (g : Gh) (δ : Sx) (cs : List Cl), RE K G g H σ δ ∧ All2 (CR K g) vs cs ∧
  ∃ e', mg cs δ.e = some e' ∧ ∀ σ', RE K G g H σ' ⟨e', δ.s⟩ → Off gv σ σ' → Q σ' H
section
variable {X : Cx} {E : XQ} {pos : Pos} {e : Expr} {mc : M Cl}
def mgName (i : Nat) : MG Cl := fun c e => some (e.set i c)
theorem jg_name {i : Nat} {x : Str} (hN : X.N.Nodup) (hi : X.N[i]? = some x) (hx : Loc X.env.scope x) (hf : X.fn x = true ∨ X.env.scope.names.lookup x = some .local := by first | exact .inl rfl | exact .inr rfl | assumption) : PG X (.Name x pos) (gOf X.K [i] (mgName i)) :=
  pg_imp (pg_name hN hi hx hf) fun v σ H Q ⟨G, g, δ, c, re, r, e', h, po⟩ => by
    cases h
    exact po _ (re.set r) ⟨by simp, fun j hj => by rw [List.getElem?_set_ne (fun z => hj (by simp [z]))]⟩
def mgNil : MG (List Cl)
  | [], e => some e
  | _ :: _, _ => none
def mgCons (g : MG Cl) (gs : MG (List Cl)) : MG (List Cl)
  | c :: cs, e => (g c e).bind (gs cs)
  | [], _ => none
theorem jgs_nil : PGs X [] (gOfs X.K [] mgNil) := pgs_imp pgs_nil fun vs σ H Q ⟨G, g, δ, cs, re, r, e', h, po⟩ => by
  cases r with
  | nil =>
    cases h
    exact ⟨rfl, po σ re Off.refl⟩
  | cons _ _ => cases h
theorem jgs_cons {t : Expr} {ts : List Expr} {gv gw : List Nat} {mg : MG Cl} {mgs : MG (List Cl)} (h1 : PG X t (gOf X.K gv mg)) (h2 : PGs X ts (gOfs X.K gw mgs)) (hs : (assignEach (t :: ts) X.env).map (·.2) = assign t X.env :: (assignEach ts X.env).map (·.2) := by rfl) : PGs X (t :: ts) (gOfs X.K (gv ++ gw) (mgCons mg mgs)) :=
  pgs_imp (pgs_cons h1 h2 hs) fun vs σ H Q ⟨G, g, δ, cs, re, r, e', h, po⟩ => by
    cases r with
    | nil => cases h
    | cons r1 rs =>
      obtain ⟨e1, h1, h2⟩ := Option.bind_eq_some_iff.mp h
      exact ⟨_, _, rfl, G, g, δ, _, re, r1, e1, h1, fun σ' re' of => ⟨G, g, _, _, re', rs, e', h2, fun σ2 re2 of2 => po σ2 re2 (of.trans of2)⟩⟩
def mgLen (n : Nat) (gs : MG (List Cl)) : MG (List D) := fun ds e => if ds.length = n then gs (ds.map Cl.sh) e else none
def mgTup (n : Nat) (gs : MG (List Cl)) : MG Cl
  | .sh (.tuple ds), e => mgLen n gs ds e
  | _, _ => none
def mgLst (n : Nat) (gs : MG (List Cl)) : MG Cl
  | .sh (.list ds), e => mgLen n gs ds e
  | _, _ => none
theorem mgLen_some {n : Nat} {gs : MG (List Cl)} {ds : List D} {e e' : List Cl} (h : mgLen n gs ds e = some e') : ds.length = n ∧ gs (ds.map Cl.sh) e = some e' := by
  unfold mgLen at h
  by_cases hl : ds.length = n
  · rw [if_pos hl] at h; exact ⟨hl, h⟩
  · rw [if_neg hl] at h; cases h
theorem jg_tup {ts : List Expr} {k n : Nat} {gv : List Nat} {mgs : MG (List Cl)} (hc : X.calm = true) (h : PGs X ts (gOfs X.K gv mgs)) (hn : (assignEach ts X.env).length = n := by rfl) (hst : (assignEach ts X.env).findIdx? (·.1) = none := by rfl) : PG X (.Tuple ts k pos) (gOf X.K gv (mgTup n mgs)) :=
  pg_imp (pg_tup (n := n) hc h hn hst) fun v σ H Q ⟨G, g, δ, c, re, r, e', h, po⟩ => by
    cases r with
    | lo _ => cases h
    | sh r =>
      cases r with
      | tup h1 t =>
        obtain ⟨hl, h2⟩ := mgLen_some h
        exact ⟨_, _, rfl, sqT_ex re.ex h1, by rw [t.length]; exact hl, G, g, δ, _, re, rps_cr t, e', h2, po⟩
      | _ => cases h
theorem jg_lst {ts : List Expr} {k n : Nat} {gv : List Nat} {mgs : MG (List Cl)} (hc : X.calm = true) (h : PGs X ts (gOfs X.K gv mgs)) (hn : (assignEach ts X.env).length = n := by rfl) (hst : (assignEach ts X.env).findIdx? (·.1) = none := by rfl) : PG X (.Tuple ts k pos) (gOf X.K gv (mgLst n mgs)) :=
  pg_imp (pg_unl (n := n) hc h hn hst) fun v σ H Q ⟨G, g, δ, c, re, r, e', h, po⟩ => by
    cases r with
    | lo _ => cases h
    | sh r =>
      cases r with
      | lst h1 t =>
        obtain ⟨hl, h2⟩ := mgLen_some h
        exact ⟨_, _, rfl, sqL_ex re.ex h1, by rw [t.length]; exact hl, G, g, δ, _, re, rps_cr t, e', h2, po⟩
      | _ => cases h
/-- targets = e -/
def mAsg (mg : MG Cl) (m : M Cl) : M Fl := mBind m fun c δ => match mg c δ.e with
  | some e' => .ok .nx ⟨e', δ.s⟩
  | none => .bad
theorem js_asg {tg : Expr} {gv : List Nat} {mg : MG Cl} (h : PE X e (tOfC X.K E mc)) (hg : PG X tg (gOf X.K gv mg)) (hs : swapsWithSole [tg] e pos.line X.env = pure false := by rfl) (hw : swappedStores [tg] e X.env = pure none := by rfl)
    (h1 : (assignEach [tg] X.env).map (·.2) = [assign tg X.env] := by rfl) : PS X (.Assign [tg] e pos) (tOfS X.K E (mAsg mg mc)) :=
  pst_imp (ps_asg h hg hs hw h1) fun B σ H ⟨G, g, δ, re, po⟩ => tOfC.stepS re po fun v c g1 H1 δ1 e1 re1 r1 po1 => by
    split at po1
    · rename_i e' he
      exact ⟨G, g1, δ1, c, re1, r1, e', he, fun σ' re' _ => po1 σ' g1 H1 (Le.refl _) re'⟩
    · exact po1.elim
end
def ItOk (K : Frag) (Hs : Hp) (J : It) (ds : List D) : Prop := ∀ Hs1 H1, Ex Hs Hs1 → Ex Hs1 H1 → ∀ i : Nat,
  (∀ d, ds[i]? = some d → J.go i H1 ∧ ∀ x H2, J.yld i H1 x H2 → ∃ Hs2, Gs Hs1 H1 Hs2 H2 ∧ Rp K Hs2 x d) ∧ (ds[i]? = none → J.stop i H1)
theorem ItOk.of {K : Frag} {Hs : Hp} {J : It} {ds : List D} (h : Dn.ItOk K Hs J ds) : ItOk K Hs J ds := fun Hs1 H1 e1 e2 i => ⟨fun d hd => ⟨((h Hs1 H1 e1 e2 i).1 d hd).1, fun x H2 y => by
  obtain ⟨Hs2, g, r⟩ := ((h Hs1 H1 e1 e2 i).1 d hd).2 x H2 y
  exact ⟨Hs2, .of g, r⟩⟩, (h Hs1 H1 e1 e2 i).2⟩
def tOfI (K : Frag) (E : XQ) (m : M (List D)) : TI := fun σ H R => Cf K E m σ H fun _ ds g' H' _ => ∀ J, ItOk K g'.h J ds → R J H'
section
variable {X : Cx} {E : XQ} {tg e : Expr} {pos : Pos} {m : M D}
def mIter (m : M D) : M (List D) := mBind m fun d => mOpt (dItems d)
theorem ji_any (h : PE X e (tOf X.K E m)) : PI X tg e (tOfI X.K E (mIter m)) :=
  pi_imp (pi_anyR h) fun σ H R ⟨G, g, δ, re, po⟩ => tOf.step re po fun v d g1 H1 δ1 e1 re1 r1 po1 => by
    obtain ⟨ds, hd, po2⟩ := Post.opt po1
    cases r1 with
    | lst h t =>
      obtain rfl := Option.some.inj hd
      exact .inl ⟨_, rfl, ⟨_, sqL_ex re1.ex h⟩, Post.of po2 re1 _ (.of (it_list h t))⟩
    | tup h t =>
      obtain rfl := Option.some.inj hd
      exact .inr (.inl ⟨_, rfl, ⟨_, sqT_ex re1.ex h⟩, Post.of po2 re1 _ (.of (it_tup h t))⟩)
    | str z =>
      obtain rfl := Option.some.inj hd
      exact .inr (.inr ⟨z, rfl, Post.of po2 re1 _ (.of it_str)⟩)
    | _ => simp [dItems] at hd
def mRng1 (m : M D) : M (List D) := mBind m fun d => mOpt (bRng1 d)
def mRng2 (ma mb : M D) : M (List D) := mBind ma fun d => mBind mb fun e => mOpt (bRng2 d e)
theorem ji_range1 {a : Expr} {p : Pos} {ma : M D} (hg : Gl X "range") (hm : X.mg "range" = none) (ha : PE X a (tOf X.K E ma)) (hs : starEach [a] X.env = [(false, eval a X.env)] := by rfl) : PI X tg (.Call (.Name "range" p) [a] [] pos) (tOfI X.K E (mRng1 ma)) :=
  pi_imp (pi_range1 hg hm (pa_cons ha pa_nil hs) hs) fun σ H R ⟨G, g, δ, re, po⟩ => tOf.step re po fun v d g1 H1 δ1 e1 re1 r1 po1 => by
    obtain ⟨ds, hd, po2⟩ := Post.opt po1
    cases r1 with
    | int j =>
      simp only [bRng1, Option.ite_none_right_eq_some, Option.some.injEq] at hd
      obtain ⟨hl, hd⟩ := hd
      subst hd
      have hl' := of_decide_eq_true hl
      exact ⟨j, rfl, hl'.1, hl'.2, Post.of po2 re1 _ (.of it_rng)⟩
    | _ => simp [bRng1] at hd
def forL (mg : MG Cl) (mb : M Fl) : List D → M Fl
  | [] => mNx
  | d :: ds => fun δ => match mg (.sh d) δ.e with
    | some e' => match mb ⟨e', δ.s⟩ with
      | .ok .nx δ2 => forL mg mb ds δ2
      | .ok .ct δ2 => forL mg mb ds δ2
      | .ok .bk δ2 => .ok .nx δ2
      | .ok (.rt s) δ2 => .ok (.rt s) δ2
      | .exc x δ2 => .exc x δ2
      | .bad => .bad
    | none => .bad
def mFor (mi : M (List D)) (mg : MG Cl) (mb : M Fl) : M Fl := mBind mi (forL mg mb)
theorem js_for {iter : Expr} {body : List Stmt} {mi : M (List D)} {gv : List Nat} {mg : MG Cl} {mb : M Fl} (hpa : PassesOwn (model X.prog X.w) X.A X.env X.xe) (hc : X.calm = true) (hi : PI X tg iter (tOfI X.K E mi)) (hg : PG X tg (gOf X.K gv mg)) (hb : PSs X body (tOfS X.K E mb))
    (hs : ∀ x, foldedSetIterable iter X.env x = pure x := by intro _; rfl) : PS X (.For tg iter body [] pos) (tOfS X.K E (mFor mi mg mb)) :=
  pst_imp (ps_for hpa hc hi hg hb hs) fun B σ H ⟨G, g, δ, re, po⟩ => Cf.stepS re po fun ds g1 H1 δ1 e1 re1 po1 J hJ => by
    refine ⟨fun i m σ' H' => m = ds.length - i ∧ i ≤ ds.length ∧ ∃ g2 δ2, Le g1 g2 ∧ RE X.K G g2 H' σ' δ2 ∧ PostF X.K E G g2 (forL mg mb (ds.drop i) δ2) B, ⟨ds.length, rfl, Nat.zero_le _, g1, δ1, Le.refl _, re1, po1⟩, ?_⟩
    rintro i m σ' H' ⟨hm, hi, g2, δ2, e2, re2, po2⟩
    obtain ⟨j1, j2⟩ := hJ g2.h H' e2.h re2.ex i
    by_cases hlt : i < ds.length
    · have hd : ds[i]? = some ds[i] := List.getElem?_eq_getElem hlt
      obtain ⟨k1, k2⟩ := j1 _ hd
      refine .inr ⟨k1, fun σ3 H3 => ∃ g3 δ3, Le g1 g3 ∧ RE X.K G g3 H3 σ3 δ3 ∧ PostF X.K E G g3 (forL mg mb (ds.drop (i + 1)) δ3) B, fun σ3 H3 ⟨g3, δ3, e3, re3, po3⟩ => ⟨ds.length - (i + 1), by omega, rfl, hlt, g3, δ3, e3, re3, po3⟩, fun x H3 y => ?_⟩
      obtain ⟨Hs3, gr, rx⟩ := k2 x H3 y
      have w := Grw.ofS gr
      have re3 := re2.grow w
      have po3 := PostS.ex po2 w.le
      rw [List.drop_eq_getElem_cons hlt] at po3
      unfold forL at po3
      cases q : mg (.sh ds[i]) δ2.e with
      | some e' =>
        rw [q] at po3
        refine ⟨G, _, δ2, _, re3, .sh rx, e', q, fun σ4 re4 _ => ⟨G, _, _, re4, ?_⟩⟩
        dsimp only at po3
        have ea := e2.trans w.le
        cases z : mb ⟨e', δ2.s⟩ with
        | ok fl δ5 =>
          rw [z] at po3
          cases fl with
          | nx => exact fun σ5 g5 H5 e5 re5 => ⟨g5, δ5, ea.trans e5, re5, PostS.ex po3 e5⟩
          | ct => exact fun σ5 g5 H5 e5 re5 => ⟨g5, δ5, ea.trans e5, re5, PostS.ex po3 e5⟩
          | bk => exact fun σ5 g5 H5 e5 re5 => po3 σ5 g5 H5 e5 re5
          | rt s => exact fun σ5 g5 H5 e5 re5 => po3 σ5 g5 H5 e5 re5
        | exc x δ5 =>
          rw [z] at po3
          exact fun σ5 g5 H5 e5 re5 => po3 σ5 g5 H5 e5 re5
        | bad => rw [z] at po3; exact po3
      | none => rw [q] at po3; exact po3.elim
    · have e : i = ds.length := by omega
      subst e
      rw [List.drop_length] at po2
      exact .inl ⟨j2 (List.getElem?_eq_none_iff.mpr (Nat.le_refl _)), PostS.of po2 re2⟩
end
def wipeE (e : List Cl) : List Nat → List Cl
  | [] => e
  | v :: vs => (wipeE e vs).set v .no
def backE (e1 e2 : List Cl) : List Nat → List Cl
  | [] => e2
  | v :: vs => (backE e1 e2 vs).set v (e1.getD v .no)
theorem wipeE_length (δ : List Cl) : ∀ vs, (wipeE δ vs).length = δ.length
  | [] => rfl
  | v :: vs => by unfold wipeE; rw [List.length_set, wipeE_length δ vs]
theorem backE_length (δ1 δ2 : List Cl) : ∀ vs, (backE δ1 δ2 vs).length = δ2.length
  | [] => rfl
  | v :: vs => by unfold backE; rw [List.length_set, backE_length δ1 δ2 vs]
theorem wipeE_in {δ : List Cl} {i : Nat} {s : Cl} : ∀ {vs : List Nat}, i ∈ vs → (wipeE δ vs)[i]? = some s → s = .no
  | v :: vs, h, q => by
    unfold wipeE at q
    rcases setGet q with ⟨_, z⟩ | ⟨hj, z⟩
    · exact z
    · rcases List.mem_cons.mp h with e | h
      · exact absurd e hj
      · exact wipeE_in h z
theorem wipeE_out {δ : List Cl} {i : Nat} : ∀ {vs : List Nat}, i ∉ vs → (wipeE δ vs)[i]? = δ[i]?
  | [], _ => rfl
  | v :: vs, h => by
    unfold wipeE
    have hne : v ≠ i := fun z => h (by simp [z])
    rw [List.getElem?_set_ne hne]
    exact wipeE_out fun z => h (List.mem_cons_of_mem _ z)
theorem backE_in {δ1 δ2 : List Cl} {i : Nat} {s : Cl} : ∀ {vs : List Nat}, i ∈ vs → (backE δ1 δ2 vs)[i]? = some s → s = δ1.getD i .no
  | v :: vs, h, q => by
    unfold backE at q
    rcases setGet q with ⟨hv, z⟩ | ⟨hj, z⟩
    · rw [hv]; exact z
    · rcases List.mem_cons.mp h with e | h
      · exact absurd e hj
      · exact backE_in h z
theorem backE_out {δ1 δ2 : List Cl} {i : Nat} : ∀ {vs : List Nat}, i ∉ vs → (backE δ1 δ2 vs)[i]? = δ2[i]?
  | [], _ => rfl
  | v :: vs, h => by
    unfold backE
    have hne : v ≠ i := fun z => h (by simp [z])
    rw [List.getElem?_set_ne hne]
    exact backE_out fun z => h (List.mem_cons_of_mem _ z)
section
variable {K : Frag} {G : Hp} {g g' : Gh} {H H' : Hp} {σ : L2.St} {δ δ' : Sx} {vs : List Nat}
theorem RE.wipe (re : RE K G g H σ δ) : RE K G g H (L2.wipe σ vs) ⟨wipeE δ.e vs, δ.s⟩ := by
  have r1 : RE K G g H σ ⟨wipeE δ.e vs, δ.s⟩ := re.less (wipeE_length δ.e vs) (fun i s q => by
    by_cases hi : i ∈ vs
    · exact .inl (wipeE_in hi q)
    · rw [wipeE_out hi] at q; exact .inr q)
  refine r1.sig (L2.wipe_length σ vs) fun i s q hn => ?_
  by_cases hi : i ∈ vs
  · exact absurd (wipeE_in hi q) hn
  · exact L2.wipe_out hi
/-- behind a block: its own names are as they were ahead of it -/
theorem RE.back (re : RE K G g H σ δ) (re2 : RE K G g' H' (L2.wipe σ vs) δ') (e : Le g g') : RE K G g' H' σ ⟨backE δ.e δ'.e vs, δ'.s⟩ :=
  re2.slots (by rw [backE_length, ← re2.len, L2.wipe_length]) fun i c q hc => by
    by_cases hi : i ∈ vs
    · have z := backE_in hi q
      have hg : δ.e[i]? = some c := by
        rw [List.getD_eq_getElem?_getD] at z
        cases w : δ.e[i]? with
        | none => rw [w] at z; exact absurd z hc
        | some s => rw [w] at z; exact congrArg some z.symm
      obtain ⟨v, h1, h2⟩ := re.sl i c hg hc
      exact ⟨v, h1, h2.le e⟩
    · rw [backE_out hi] at q
      obtain ⟨v, h1, h2⟩ := re2.sl i c q hc
      rw [L2.wipe_out hi] at h1
      exact ⟨v, h1, h2⟩
/-- a list in the making is lent out to nobody -/
theorem RE.hide {C : Addr} {xs : List Cl} {acc : List V} (re : RE K G g H σ δ) (f : FrO K G g H C xs) (ha : H C = some (.lst acc)) : RE K (upd G C (.lst acc)) g H σ δ where
  ex := re.ex
  fg := fun a o q => by
    by_cases e : a = C
    · subst e
      rw [upd_same] at q
      cases q
      exact ⟨ha, f.hs, f.nr⟩
    · rw [upd_ne e] at q
      exact re.fg a o q
  len := re.len
  rl := re.rl
  sl := re.sl
  ob := re.ob
  nd := re.nd
  al := re.al
  nt := fun a ys q => by
    have e : a ≠ C := fun z => by subst z; rw [ha] at q; cases q
    rw [upd_ne e]
    exact re.nt a ys q
  gx := fun a fs q => by
    by_cases e : a = C
    · subst e; rw [upd_same] at q; cases q
    · rw [upd_ne e] at q; exact re.gx a fs q
  fz := re.fz
theorem RE.shown {C : Addr} {o u : HO} (re : RE K (upd G C o) g H σ δ) (hg : G C = none) : RE K G g (upd H C u) σ δ where
  ex := fun a o' q => by
    have h := (re.fg C o upd_same).2.1
    have e : a ≠ C := fun z => by rw [z, h] at q; cases q
    rw [upd_ne e]
    exact re.ex a o' q
  fg := fun a o' q => by
    have e : a ≠ C := fun z => by rw [z, hg] at q; cases q
    rw [upd_ne e]
    exact re.fg a o' (by rw [upd_ne e]; exact q)
  len := re.len
  rl := re.rl
  sl := re.sl
  ob := fun l o' q w => by
    obtain ⟨a, u', h1, h2, h3, h4⟩ := re.ob l o' q w
    have e : a ≠ C := fun z => (re.fg C o upd_same).2.2 (z ▸ List.mem_of_getElem? h1)
    exact ⟨a, u', h1, by rw [upd_ne e]; exact h2, h3, h4⟩
  nd := re.nd
  al := fun a ha => by
    by_cases e : a = C
    · subst e; rw [upd_same]; simp
    · rw [upd_ne e]; exact re.al a ha
  nt := fun a ys q => by
    by_cases e : a = C
    · subst e; exact ⟨(re.fg a o upd_same).2.2, hg⟩
    · rw [upd_ne e] at q
      have := re.nt a ys q
      rw [upd_ne e] at this
      exact this
  gx := fun a fs q => by
    by_cases e : a = C
    · subst e; rw [hg] at q; cases q
    · exact re.gx a fs (by rw [upd_ne e]; exact q)
  fz := re.fz
end
def mWipe (vs : List Nat) : M Unit := fun δ => .ok () ⟨wipeE δ.e vs, δ.s⟩
def compL (vs : List Nat) (mg : MG Cl) (mt : M Bool) (me : M D) : List D → M (List D)
  | [] => mPure []
  | d :: ds => fun δ => match mg (.sh d) δ.e with
    | some e' => mBind mt (fun b => if b then mBind me (fun y => mBind (mWipe vs) fun _ => mBind (compL vs mg mt me ds) fun ys => mPure (y :: ys)) else mBind (mWipe vs) fun _ => compL vs mg mt me ds) ⟨e', δ.s⟩
    | none => .bad
def compE (vs : List Nat) (mg : MG Cl) (mt : M Bool) (me : M D) (ds : List D) : M (List Cl) := fun δ =>
  if ds.length ≤ sizeLine then
    match compL vs mg mt me ds ⟨wipeE δ.e vs, δ.s⟩ with
    | .ok ys δ2 => .ok (ys.map Cl.sh) ⟨backE δ.e δ2.e vs, δ2.s⟩
    | _ => .bad
  else .bad
def mComp (mi : M (List D)) (vs : List Nat) (mg : MG Cl) (mt : M Bool) (me : M D) : M (List Cl) := mBind mi (compE vs mg mt me)
def mYes : M Bool := mPure true
end Ds
namespace Ds
open PySem PySem.Spec PyProof.Rows L2 Dn
section
variable {X : Cx} {E : XQ} {tg e elt iter : Expr} {ifs : List Expr} {pos : Pos} {vs gv : List Nat} {mi : M (List D)} {mg : MG Cl} {mt : M Bool} {me : M D}
/-- what a comprehension's block makes, read off its parts -/
theorem lc_read (hgv : ∀ i ∈ gv, i ∈ vs) {σ : L2.St} {H : Hp} {Q : VK} (h : tOfO X.K E (mComp mi vs mg mt me) σ H Q) :
    tLc (tOfI X.K E mi) (gOf X.K gv mg) (tOfT X.K noX mt) (tOf X.K noX me) vs σ H Q := by
  obtain ⟨G, g, δ, re, po⟩ := h
  refine Cf.step re po fun ds g1 H1 δ1 e1 re1 po1 J hJ C hC => ?_
  unfold compE at po1
  split at po1
  · rename_i hlen
    cases hcl : compL vs mg mt me ds ⟨wipeE δ1.e vs, δ1.s⟩ with
    | ok ys δf =>
      rw [hcl] at po1
      have en : Ex H1 (upd H1 C (.lst [])) := ex_new hC
      have gC : G C = none := by
        cases q : G C with
        | none => rfl
        | some u => have := (re1.fg C u q).1; rw [hC] at this; cases this
      have re2 := (re1.newH en).wipe (vs := vs)
      have f0 : FrO X.K G g1 (upd H1 C (.lst [])) C [] := FrO.new re1 hC .nil
      refine ⟨fun i m H' => m = ds.length - i ∧ i ≤ ds.length ∧ ∃ g2 δ2 done ys2, Le g1 g2 ∧ RE X.K G g2 H' (L2.wipe σ vs) δ2 ∧ FrO X.K G g2 H' C (done.map Cl.sh) ∧ done.length ≤ i ∧ compL vs mg mt me (ds.drop i) δ2 = .ok ys2 δf ∧ done ++ ys2 = ys,
        ⟨ds.length, rfl, Nat.zero_le _, g1, _, [], ys, Le.refl _, re2, f0, Nat.le_refl _, hcl, rfl⟩, ?_⟩
      rintro i m H' ⟨hm, hi, g2, δ2, done, ys2, e2, re3, f3, hdl, hc3, hys⟩
      obtain ⟨j1, j2⟩ := hJ g2.h H' e2.h re3.ex i
      by_cases hlt : i < ds.length
      · have hd : ds[i]? = some ds[i] := List.getElem?_eq_getElem hlt
        obtain ⟨k1, k2⟩ := j1 _ hd
        refine .inr ⟨k1, fun H3 => ∃ g3 δ3 done ys2, Le g1 g3 ∧ RE X.K G g3 H3 (L2.wipe σ vs) δ3 ∧ FrO X.K G g3 H3 C (done.map Cl.sh) ∧ done.length ≤ i + 1 ∧ compL vs mg mt me (ds.drop (i + 1)) δ3 = .ok ys2 δf ∧ done ++ ys2 = ys,
          fun H3 hN => ⟨ds.length - (i + 1), by omega, rfl, hlt, hN⟩, fun x H3 y => ?_⟩
        obtain ⟨Hs3, gr, rx⟩ := k2 x H3 y
        have w := Grw.ofS gr
        obtain ⟨acc, ha, hr⟩ := f3.at_
        have re4 := re3.grow w
        have z3 : Hs3 C = none := by
          rcases gr.f C (by rw [ha]; simp) with z | ⟨ys, z⟩
          · rw [z]; exact f3.hs
          · rw [ha] at z; cases z
        have f4 : FrO X.K G ⟨g2.r, Hs3⟩ H3 C (done.map Cl.sh) := ⟨⟨acc, gr.h C _ ha, CRs.le w.le hr⟩, z3, f3.gg, f3.nr⟩
        have re5 := re4.hide f4 (gr.h C _ ha)
        rw [List.drop_eq_getElem_cons hlt] at hc3
        unfold compL at hc3
        cases q : mg (.sh ds[i]) δ2.e with
        | some e' =>
          rw [q] at hc3
          refine ⟨upd G C (.lst acc), ⟨g2.r, Hs3⟩, δ2, _, re5, .sh rx, e', q, fun σ4 re6 of4 => ⟨wipe_off of4 hgv, ?_⟩⟩
          dsimp only at hc3
          -- a turn's end: the names wiped, the list as it is then
          have turn : ∀ {g5 : Gh} {H5 : Hp} {δ5 : Sx} {u : HO}, RE X.K (upd G C (.lst acc)) g5 H5 σ4 δ5 → RE X.K G g5 (upd H5 C u) (L2.wipe σ vs) ⟨wipeE δ5.e vs, δ5.s⟩ ∧ g5.h C = none ∧ H5 C = some (.lst acc) ∧ C ∉ g5.r := fun {g5 H5 δ5 u} re7 => by
            have rw7 := re7.wipe (vs := vs)
            rw [wipe_off of4 hgv] at rw7
            have hf := re7.fg C (.lst acc) upd_same
            exact ⟨rw7.shown gC, hf.2.1, hf.1, hf.2.2⟩
          have ew := e2.trans w.le
          refine ⟨_, _, ⟨e', δ2.s⟩, re6, ?_⟩
          cases zt : mt ⟨e', δ2.s⟩ with
          | ok b δ5 =>
            rw [show mBind mt _ ⟨e', δ2.s⟩ = _ from by unfold mBind; rw [zt]] at hc3
            dsimp only at hc3
            refine fun g5 H5 e5 re7 => ?_
            cases b with
            | true =>
              rw [if_pos rfl] at hc3 ⊢
              refine ⟨_, g5, δ5, re7, ?_⟩
              cases ze : me δ5 with
              | ok yv δ6 =>
                rw [ze] at hc3
                refine fun g6 H6 e6 re8 v rv => ?_
                obtain ⟨t1, t3, t4, t5⟩ := turn (u := .lst (acc ++ [v])) re8
                have hal : acc.length = done.length := by rw [hr.length, List.length_map]
                refine ⟨acc, t4, by omega, ?_⟩
                have hc4 : mBind (compL vs mg mt me (ds.drop (i + 1))) (fun ys => mPure (yv :: ys)) ⟨wipeE δ6.e vs, δ6.s⟩ = .ok ys2 δf := hc3
                cases zr : compL vs mg mt me (ds.drop (i + 1)) ⟨wipeE δ6.e vs, δ6.s⟩ with
                | ok ys3 δ7 =>
                  unfold mBind at hc4
                  rw [zr] at hc4
                  have hc5 : Res.ok (yv :: ys3) δ7 = Res.ok ys2 δf := hc4
                  injection hc5 with k1 k2
                  subst k1; subst k2
                  have e16 : Le g1 g6 := (ew.trans e5).trans e6
                  refine ⟨g6, _, done ++ [yv], ys3, e16, t1, ⟨⟨acc ++ [v], upd_same, ?_⟩, t3, gC, t5⟩, by simp; exact hdl, zr, by rw [← hys]; simp⟩
                  rw [List.map_append]
                  exact (CRs.le ((w.le.trans e5).trans e6) hr).snoc (.sh rv)
                | exc x δ7 => unfold mBind at hc4; rw [zr] at hc4; cases hc4
                | bad => unfold mBind at hc4; rw [zr] at hc4; cases hc4
              | exc x δ6 => rw [ze] at hc3; cases hc3
              | bad => rw [ze] at hc3; cases hc3
            | false =>
              rw [if_neg Bool.false_ne_true] at hc3 ⊢
              obtain ⟨t1, t3, t4, t5⟩ := turn (u := .lst acc) re7
              have hu : upd H5 C (.lst acc) = H5 := by
                funext b
                by_cases hb : b = C
                · subst hb; rw [upd_same, t4]
                · rw [upd_ne hb]
              rw [hu] at t1
              have hc4 : compL vs mg mt me (ds.drop (i + 1)) ⟨wipeE δ5.e vs, δ5.s⟩ = .ok ys2 δf := hc3
              exact ⟨g5, _, done, ys2, ew.trans e5, t1, ⟨⟨acc, t4, CRs.le (w.le.trans e5) hr⟩, t3, gC, t5⟩, by omega, hc4, hys⟩
          | exc x δ5 => rw [show mBind mt _ ⟨e', δ2.s⟩ = _ from by unfold mBind; rw [zt]] at hc3; cases hc3
          | bad => rw [show mBind mt _ ⟨e', δ2.s⟩ = _ from by unfold mBind; rw [zt]] at hc3; cases hc3
        | none => rw [q] at hc3; cases hc3
      · have ei : i = ds.length := by omega
        subst ei
        rw [List.drop_length] at hc3
        have hc4 : Res.ok ([] : List D) δ2 = Res.ok ys2 δf := hc3
        injection hc4 with k1 k2
        subst k1; subst k2
        rw [List.append_nil] at hys
        subst hys
        refine .inl ⟨j2 (List.getElem?_eq_none_iff.mpr (Nat.le_refl _)), ?_⟩
        exact po1 g2 H' e2 (re1.back re3 e2) C f3
    | exc x δf => rw [hcl] at po1; exact po1.elim
    | bad => rw [hcl] at po1; exact po1.elim
  · exact po1.elim
theorem jts_nil : PTs X [] (tOfT X.K E mYes) := ⟨fun pins s σ H Q I ⟨G, g, δ, re, po⟩ => pts_nil.run pins s σ H Q I (Post.of po re)⟩
theorem jts_one {c : Expr} (h : PT X c (tOfT X.K E mt)) : PTs X [c] (tOfT X.K E mt) := pts_one h
theorem jo_comp {scope : Scope} {own : List (Str × Nat)} (hgv : ∀ i ∈ gv, i ∈ own.map (·.2)) (hc : X.calm = true) (hN : X.N.Nodup) (hi : PI X tg iter (tOfI X.K E mi)) (ok : BlkOk X.N X.env.scope scope own)
    (hg : ∀ (s : Shared) (H : Hp) (C : Addr) (cl : List (Str × Addr)) (fp : List Addr), PG (X.blk s H scope (compEnvC scope cl C X.env) fp) tg (gOf X.K gv mg)) (ht : ∀ (s : Shared) (H : Hp) (C : Addr) (cl : List (Str × Addr)) (fp : List Addr), PTs (X.blk s H scope (compEnvC scope cl C X.env) fp) ifs (tOfT X.K noX mt))
    (he : ∀ (s : Shared) (H : Hp) (C : Addr) (cl : List (Str × Addr)) (fp : List Addr), PE (X.blk s H scope (compEnvC scope cl C X.env) fp) elt (tOf X.K noX me)) (hs : ∀ x, foldedSetIterable iter X.env x = pure x := by intro _; rfl) :
    PE X (.ListComp elt [⟨tg, iter, ifs, 0⟩] scope pos) (tOfO X.K E (mComp mi (own.map (·.2)) mg mt me)) :=
  pe_imp (pe_lc hc hN hi ok hg ht he hs) fun σ H Q h => lc_read hgv h
/-- y = [..] on one line -/
theorem js_lc {i : Nat} {y : Str} {py : Pos} {scope : Scope} {own : List (Str × Nat)} {spos : Pos} {mc : M (List Cl) → M Cl} (hgv : ∀ i ∈ gv, i ∈ own.map (·.2)) (hc : X.calm = true) (hN : X.N.Nodup) (hy : X.N[i]? = some y) (hyl : X.env.scope.names.lookup y = some .local)
    (hmc : ∀ (m : M (List Cl)) (σ : L2.St) (H : Hp) (Q : VK), tOfC X.K E (mc m) σ H Q → tOfO X.K E m σ H Q)
    (hsw : swapsWith (.ListComp elt [⟨tg, iter, ifs, 0⟩] scope pos) (some (.Name y py)) spos.line X.env = pure true) (hi : PI X tg iter (tOfI X.K E mi)) (ok : BlkOk X.N X.env.scope scope own)
    (hg : ∀ (s : Shared) (H : Hp) (C : Addr) (cl : List (Str × Addr)) (fp : List Addr), PG (X.blk s H scope (compEnvC scope cl C X.env) fp) tg (gOf X.K gv mg)) (ht : ∀ (s : Shared) (H : Hp) (C : Addr) (cl : List (Str × Addr)) (fp : List Addr), PTs (X.blk s H scope (compEnvC scope cl C X.env) fp) ifs (tOfT X.K noX mt))
    (he : ∀ (s : Shared) (H : Hp) (C : Addr) (cl : List (Str × Addr)) (fp : List Addr), PE (X.blk s H scope (compEnvC scope cl C X.env) fp) elt (tOf X.K noX me)) (hs : ∀ x, foldedSetIterable iter X.env x = pure x := by intro _; rfl) :
    PS X (.Assign [.Name y py] (.ListComp elt [⟨tg, iter, ifs, 0⟩] scope pos) spos) (tOfS X.K E (mSet i (mc (mComp mi (own.map (·.2)) mg mt me)))) :=
  pst_imp (ps_setLc hc hN hy hyl hsw hi ok hg ht he hs) fun B σ H ⟨G, g, δ, re, po⟩ => lc_read hgv (hmc _ _ _ _ (tOfC.stepS re po fun v c g1 H1 δ1 e1 re1 r1 po1 => PostS.of po1 (re1.set r1)))
/-- .. as data, as one of the store's -/
theorem frO {m : M (List Cl)} {σ : L2.St} {H : Hp} {Q : VK} (h : tOf X.K E (mFr m) σ H Q) : tOfO X.K E m σ H Q := by
  obtain ⟨G, g, δ, re, po⟩ := h
  refine tOfO.step re po fun a xs g1 H1 δ1 e1 re1 f1 po1 => ?_
  obtain ⟨d, hd, po2⟩ := Post.opt po1
  obtain ⟨ds, h1, h2⟩ := Option.map_eq_some_iff.mp hd
  subst h2
  obtain ⟨g2, k1, _, k2, k3⟩ := re1.freeze f1 h1
  exact po2 g2 H1 k1 k2 _ k3
theorem shO {m : M D} {σ : L2.St} {H : Hp} {Q : VK} (h : tOfC X.K E (mSh m) σ H Q) : tOf X.K E m σ H Q := by
  obtain ⟨G, g, δ, re, po⟩ := h
  exact tOf.step re po fun v d g1 H1 δ1 e1 re1 r1 po1 => Post.of po1 re1 v (.sh r1)
theorem mc_fr (m : M (List Cl)) (σ : L2.St) (H : Hp) (Q : VK) (h : tOfC X.K E (mSh (mFr m)) σ H Q) : tOfO X.K E m σ H Q := frO (shO h)
end
inductive RF where
  | ok (c : Cl) (s : List Ob)
  | exc (y : Exn) (s : List Ob)
  | bad
abbrev Fn := List Cl → List Ob → RF
def Cl.below (n : Nat) : Cl → Bool
  | .lo l => decide (l < n)
  | _ => true
def Ob.below (n : Nat) : Ob → Bool
  | .gone => true
  | .lst xs => xs.all (Cl.below n)
  | .dk kvs => kvs.all fun p => p.2.below n
  | .dt kvs => kvs.all fun p => p.2.below n
  | .ft kvs => kvs.all fun p => p.2.below n
  | .ins _ fs => fs.all fun p => p.2.below n
/-- what a def has made for itself is forgotten behind it, where nothing reaches it -/
def trim (n : Nat) (c : Cl) (s : List Ob) : List Ob := if (c.below n && (s.take n).all (Ob.below n)) = true then s.take n else s
def fnF (n N : Nat) (mb : M Fl) : Fn := fun as s => if as.length = n then match mb ⟨as ++ List.replicate (N - n) .no, s⟩ with
  | .ok (.rt c) δ' => .ok c (trim s.length c δ'.s)
  | .ok .nx δ' => .ok (.sh .none) (trim s.length (.sh .none) δ'.s)
  | .exc x δ' => .exc x δ'.s
  | _ => .bad
  else .bad
def spF (K : Frag) (n : Nat) (F : Fn) : Sp := fun vs H Q E => vs.length = n ∧ ∃ (G : Hp) (g : Gh) (as : List Cl) (s : List Ob), RE K G g H [] ⟨[], s⟩ ∧ All2 (CR K g) vs as ∧
  match F as s with
  | .ok c s' => ∀ g' H', Le g g' → RE K G g' H' [] ⟨[], s'⟩ → ∀ v, CR K g' v c → Q v H'
  | .exc x s' => False
  | .bad => False
section
variable {K : Frag} {G : Hp} {g g' : Gh} {H H' : Hp} {σ : L2.St} {δ δ' : Sx}
theorem CR.cut {n : Nat} {v : V} {c : Cl} (h : CR K g v c) (hb : c.below n = true) : CR K ⟨g.r.take n, g.h⟩ v c := by
  cases h with
  | sh h => exact .sh h
  | lo h =>
    refine .lo ?_
    have : _ < n := of_decide_eq_true hb
    show (g.r.take n)[_]? = _
    rw [List.getElem?_take_of_lt this]
    exact h
theorem ObR.cut {n : Nat} {o : Ob} {u : HO} (h : ObR K g o u) (hb : o.below n = true) : ObR K ⟨g.r.take n, g.h⟩ o u := by
  have f : ∀ {κ : Type} {vs : List (κ × V)} {xs : List (κ × Cl)}, All2 (fun p q => p.1 = q.1 ∧ CR K g p.2 q.2) vs xs → (xs.all fun p => p.2.below n) = true → All2 (fun p q => p.1 = q.1 ∧ CR K ⟨g.r.take n, g.h⟩ p.2 q.2) vs xs := fun {κ vs xs} t hb =>
    t.imp_mem fun a b m r => ⟨r.1, r.2.cut (List.all_eq_true.mp hb b m)⟩
  cases h with
  | lst t => exact .lst (t.imp_mem fun a b m r => r.cut (List.all_eq_true.mp hb b m))
  | dk t => exact .dk (f t hb)
  | dt t => exact .dt (f t hb)
  | ins c t => exact .ins c (f t hb)
theorem RE.trim {c : Cl} {v : V} {n : Nat} (r : RE K G g H [] ⟨[], δ.s⟩) (hn : n ≤ δ.s.length) (hc : CR K g v c) : ∃ g', g'.h = g.h ∧ (∀ l a, l < n → g.r[l]? = some a → g'.r[l]? = some a) ∧ RE K G g' H [] ⟨[], Ds.trim n c δ.s⟩ ∧ CR K g' v c := by
  unfold Ds.trim
  split
  · rename_i hb
    rw [Bool.and_eq_true] at hb
    obtain ⟨h1, h2⟩ := hb
    refine ⟨⟨g.r.take n, g.h⟩, rfl, fun l a hl h => ?_, ?_, hc.cut h1⟩
    · show (g.r.take n)[l]? = some a
      rw [List.getElem?_take_of_lt hl]
      exact h
    · exact {
        ex := r.ex
        fg := fun a o q => by
          obtain ⟨a1, a2, a3⟩ := r.fg a o q
          exact ⟨a1, a2, fun z => a3 (List.mem_of_mem_take z)⟩
        len := rfl
        rl := by
          have : g.r.length = δ.s.length := r.rl
          simp [this]
        sl := fun i c q => by simp at q
        ob := fun l o q hl => by
          have q : (δ.s.take n)[l]? = some o := q
          have hln : l < n := by
            have := (List.getElem?_eq_some_iff.mp q).1
            simp at this
            omega
          rw [List.getElem?_take_of_lt hln] at q
          obtain ⟨a, u, b1, b2, b3, b4⟩ := r.ob l o q hl
          refine ⟨a, u, ?_, b2, b3.cut ?_, b4⟩
          · show (g.r.take n)[l]? = some a
            rw [List.getElem?_take_of_lt hln]
            exact b1
          · refine List.all_eq_true.mp h2 o ?_
            refine List.mem_of_getElem? (i := l) ?_
            rw [List.getElem?_take_of_lt hln]
            exact q
        nd := (List.take_sublist n g.r).nodup r.nd
        al := fun a ha => r.al a (List.mem_of_mem_take ha)
        nt := fun a ys q => ⟨fun z => (r.nt a ys q).1 (List.mem_of_mem_take z), (r.nt a ys q).2⟩
        gx := r.gx
        fz := fun l kvs q => by
          have q : (δ.s.take n)[l]? = some (.ft kvs) := q
          have hln : l < n := by
            have := (List.getElem?_eq_some_iff.mp q).1
            simp at this
            omega
          have hm : Ob.below n (.ft kvs) = true := List.all_eq_true.mp h2 _ (List.mem_of_getElem? q)
          rw [List.getElem?_take_of_lt hln] at q
          obtain ⟨a, o, vs, b1, b2, b3⟩ := r.fz l kvs q
          refine ⟨a, o, vs, ?_, b2, b3.imp_mem fun a b m z => ⟨z.1, z.2.cut (List.all_eq_true.mp hm b m)⟩⟩
          show (g.r.take n)[l]? = some a
          rw [List.getElem?_take_of_lt hln]
          exact b1 }
  · exact ⟨g, rfl, fun l a _ h => h, r, hc⟩
theorem RE.start {vs : List V} {as : List Cl} {s : List Ob} (r : RE K G g H [] ⟨[], s⟩) (t : All2 (CR K g) vs as) (k : Nat) : RE K G g H (vs.map some ++ List.replicate k none) ⟨as ++ List.replicate k .no, s⟩ :=
  r.slots (by simp [t.length]) fun i c q hc => by
    by_cases hi : i < as.length
    · rw [List.getElem?_append_left hi] at q
      obtain ⟨v, h1, h2⟩ := t.get q
      have hiv : i < (vs.map some).length := by rw [List.length_map, t.length]; exact hi
      exact ⟨v, by rw [List.getElem?_append_left hiv, List.getElem?_map, h1]; rfl, h2⟩
    · rw [List.getElem?_append_right (by omega), List.getElem?_replicate] at q
      split at q
      · cases q; exact absurd rfl hc
      · cases q
end
theorem trim_le {n : Nat} {c : Cl} {s : List Ob} (h : n ≤ s.length) : n ≤ (trim n c s).length := by
  unfold trim
  split
  · rw [List.length_take]; omega
  · exact h
section
variable {P : Program} {w : World} {K : Frag} {mg : Str → Option Value} {base : Heap}
/-- a def keeps its promise: by its body as a run upon data -/
theorem fn_J {x qual : Str} {st : Stmt} {f : Addr} {fd : FuncData} {N pr : List Str} {k n nN : Nat} {mb : M Fl} (F : Fun K x qual st f fd) (S : FnScope N pr (defScope st)) (hn : pr.length = n) (hN : N.length = nN) (hle : n ≤ nN)
    (hbody : ∀ (cdv : Value) (A : Around) (outer : List PySem.Env) (s : Shared) (H : Hp) (E : XK), Room k (A.deeper (envOfC qual (defScope st) s.heap.objs.size f cdv)) →
      PSs (cxOf CX0 P w K mg base N qual (defScope st) f cdv A outer s H E).nox (defBody st) (tOfS K noX mb)) : FnOk P w K mg base CX0 (k + 1) f fd pr (spF K n (fnF n nN mb)) := by
  refine F.ok S (fun vs H Q E h => by rw [h.1, hn]) fun cdv A outer s H vs Q E hr h => ⟨_, hbody cdv A outer s H E hr, ?_⟩
  obtain ⟨hl, G, g, as, st0, re, t, po⟩ := h
  have hst : L2.start N vs = vs.map some ++ List.replicate (nN - n) none := by unfold L2.start; rw [hN, hl]
  refine ⟨G, g, ⟨as ++ List.replicate (nN - n) .no, st0⟩, by rw [hst]; exact re.start t _, ?_⟩
  have hal : as.length = n := by rw [← t.length, hl]
  unfold fnF at po
  rw [if_pos hal] at po
  have grl : g.r.length = st0.length := re.rl
  have fin : ∀ {c : Cl} {δ' : Sx} {σ' : L2.St} {g' : Gh} {H' : Hp} {v : V}, (∀ g' H', Le g g' → RE K G g' H' [] ⟨[], trim st0.length c δ'.s⟩ → ∀ v, CR K g' v c → Q v H') → Le g g' → RE K G g' H' σ' δ' → CR K g' v c → Q v H' := fun {c δ' σ' g' H' v} k e r hc => by
    have hn' : st0.length ≤ δ'.s.length := by
      rw [← r.rl, ← grl]
      by_cases h0 : g.r.length = 0
      · omega
      · have := (List.getElem?_eq_some_iff.mp (e.r (g.r.length - 1) _ (List.getElem?_eq_getElem (by omega)))).1
        omega
    obtain ⟨g2, a1, a2, a3, a4⟩ := RE.trim (δ := δ') (n := st0.length) r.bare hn' hc
    refine k g2 H' ⟨fun l a h => a2 l a ?_ (e.r l a h), by rw [a1]; exact e.h⟩ a3 v a4
    have := (List.getElem?_eq_some_iff.mp h).1
    omega
  cases q : mb ⟨as ++ List.replicate (nN - n) .no, st0⟩ with
  | ok fl δ' =>
    rw [q] at po
    cases fl with
    | nx => exact fun σ' g' H' e r => fin po e r (.sh .non)
    | rt c => exact fun σ' g' H' e r v rv => fin po e r rv
    | bk => exact po.elim
    | ct => exact po.elim
  | exc x δ' => rw [q] at po; exact po.elim
  | bad => rw [q] at po; exact po.elim
end
def mCall (F : Fn) (as : List (M Cl)) : M Cl := mBind (evA as) fun cs δ => match F cs δ.s with
  | .ok c s' => .ok c ⟨δ.e, s'⟩
  | .exc x s' => .bad
  | .bad => .bad
section
variable {X : Cx} {E : XQ} {E0 : XK} {F : Fn} {as : List (M Cl)} {k n : Nat} {f : Addr} {fd : FuncData} {pr : List Str} {x : Str} {e : Expr} {es : List Expr} {p pos : Pos}
theorem call_read (hn : as.length = n) {σ : L2.St} {H : Hp} {Q : VK} (h : tOfC X.K E (mCall F as) σ H Q) : tCall (spF X.K n F) [] E0 (tOfA X.K E (evA as)) σ H Q := by
  obtain ⟨G, g, δ, re, po⟩ := h
  have hlen : ∀ (as : List (M Cl)) (δ : Sx) (cs : List Cl) (δ' : Sx), evA as δ = .ok cs δ' → cs.length = as.length := fun as => by
    induction as with
    | nil => intro δ cs δ' h; cases h; rfl
    | cons m as ih =>
      intro δ cs δ' h
      unfold evA mBind at h
      cases q : m δ with
      | ok c δ1 =>
        rw [q] at h
        dsimp only at h
        cases q2 : evA as δ1 with
        | ok cs2 δ2 =>
          rw [q2] at h
          have h : Res.ok (c :: cs2) δ2 = Res.ok cs δ' := h
          injection h with h1 h2
          subst h1
          rw [List.length_cons, List.length_cons, ih _ _ _ q2]
        | exc y δ2 => rw [q2] at h; cases h
        | bad => rw [q2] at h; cases h
      | exc y δ1 => rw [q] at h; cases h
      | bad => rw [q] at h; cases h
  unfold mCall at po
  have po' := po
  unfold mBind at po'
  cases qa : evA as δ with
  | ok cs0 δ0 =>
    have hl := hlen _ _ _ _ qa
    rw [qa] at po'
    refine ⟨G, g, δ, re, ?_⟩
    rw [qa]
    intro g1 H1 e1 re1 vs r1
    have po1 := Post.ex po' e1
    rw [List.append_nil]
    dsimp only at po1
    refine ⟨by rw [r1.length, hl, hn], G, g1, cs0, δ0.s, re1.bare, r1, ?_⟩
    cases q : F cs0 δ0.s with
    | ok c s' =>
      rw [q] at po1
      exact fun g' H' e r v rv => po1 g' H' e (re1.lift e r) v rv
    | exc y s' => rw [q] at po1; exact po1.elim
    | bad => rw [q] at po1; exact po1.elim
  | exc y δ0 =>
    rw [qa] at po'
    refine ⟨G, g, δ, re, ?_⟩
    rw [qa]
    exact po'
  | bad => rw [qa] at po'; exact po'.elim
theorem jc_call (G : FnOk X.prog X.w X.K X.mg X.base CX0 k f fd pr (spF X.K n F)) (hn : as.length = n) (hr : Room k X.A) (hg : Gl X x) (hm : X.mg x = some (.ref f)) (hk : PySem.W.keepIn X.K (.ref f) = true) (hb : Binds X.K fd pr []) (ha : PA X (e :: es) (tOfA X.K E (evA as)))
    (hdb : (x == ("__debug__" : Str)) = false := by decide) (he : starEach (e :: es) X.env = (false, eval e X.env) :: starEach es X.env := by rfl) (hpl : (backTo pos (starEach es X.env)).any (·.1) = false := by rfl) : PE X (.Call (.Name x p) (e :: es) [] pos) (tOfC X.K E (mCall F as)) :=
  pe_imp (pe_call G hr hg hm hk hb .nil pass0 ha hdb he hpl) fun _ _ _ h => call_read hn h
theorem nil_read {K : Frag} {σ : L2.St} {H : Hp} {R : List V → Hp → Prop} (h : tOfA K E (evA []) σ H R) : R [] H := by
  obtain ⟨G, g, δ, re, po⟩ := h
  exact Post.of po re [] .nil
end
end Ds
namespace Ds
open PySem PySem.Spec PyProof.Rows L2 Dn
section
variable {κ : Type} [DecidableEq κ]
def valC (kvs : List (κ × Cl)) (k : κ) : Option Cl := (kvs.find? fun kv => decide (kv.1 = k)).map (·.2)
def putC (kvs : List (κ × Cl)) (k : κ) (c : Cl) : List (κ × Cl) := if (kvs.any fun kv => decide (kv.1 = k)) = true then kvs.map (fun kv => if kv.1 = k then (kv.1, c) else kv) else kvs ++ [(k, c)]
def dropC (kvs : List (κ × Cl)) (k : κ) : List (κ × Cl) := kvs.filter fun kv => decide (kv.1 ≠ k)
def mergeC (kvs more : List (κ × Cl)) : List (κ × Cl) := more.foldl (fun acc kv => putC acc kv.1 kv.2) kvs
abbrev KR (K : Frag) (g : Gh) : List (κ × V) → List (κ × Cl) → Prop := All2 fun p q => p.1 = q.1 ∧ CR K g p.2 q.2
variable {K : Frag} {g : Gh}
theorem KR.val {vs : List (κ × V)} {cs : List (κ × Cl)} (r : KR K g vs cs) (k : κ) : (valC cs k = none ∧ valV vs k = none) ∨ ∃ v c, valC cs k = some c ∧ valV vs k = some v ∧ CR K g v c := by
  induction r with
  | nil => exact .inl ⟨rfl, rfl⟩
  | @cons p q ps qs h t ih =>
    by_cases e : q.1 = k
    · refine .inr ⟨p.2, q.2, ?_, ?_, h.2⟩
      · simp [valC, List.find?_cons, e]
      · exact valV_pos (h.1.trans e)
    · have e1 : valC (q :: qs) k = valC qs k := by simp [valC, List.find?_cons, e]
      have e2 : valV (p :: ps) k = valV ps k := valV_neg (by rw [h.1]; exact e)
      rw [e1, e2]
      exact ih
theorem KR.some {vs : List (κ × V)} {cs : List (κ × Cl)} (r : KR K g vs cs) {k : κ} {c : Cl} (h : valC cs k = some c) : ∃ v, valV vs k = some v ∧ CR K g v c := by
  rcases r.val k with ⟨a, _⟩ | ⟨v, c', a, b, d⟩
  · rw [a] at h; cases h
  · rw [a] at h; cases h; exact ⟨v, b, d⟩
theorem KR.isSome {vs : List (κ × V)} {cs : List (κ × Cl)} (r : KR K g vs cs) (k : κ) : (valV vs k).isSome = (valC cs k).isSome := by
  rcases r.val k with ⟨a, b⟩ | ⟨v, c', a, b, d⟩ <;> rw [a, b] <;> rfl
theorem KR.any {vs : List (κ × V)} {cs : List (κ × Cl)} (r : KR K g vs cs) (k : κ) : (vs.any fun kv => decide (kv.1 = k)) = cs.any fun kv => decide (kv.1 = k) := by
  induction r with
  | nil => rfl
  | @cons p q ps qs h t ih => rw [List.any_cons, List.any_cons, ih, h.1]
theorem KR.put {vs : List (κ × V)} {cs : List (κ × Cl)} (r : KR K g vs cs) (k : κ) {v : V} {c : Cl} (h : CR K g v c) : KR K g (putK vs k v) (putC cs k c) := by
  unfold putK putC
  rw [r.any k]
  have z : KR K g (vs.map fun kv => if kv.1 = k then (kv.1, v) else kv) (cs.map fun kv => if kv.1 = k then (kv.1, c) else kv) := by
    induction r with
    | nil => exact .nil
    | @cons p q ps qs h' t ih =>
      rw [List.map_cons, List.map_cons]
      refine .cons ?_ ih
      by_cases e : q.1 = k
      · rw [if_pos e, if_pos (h'.1.trans e)]; exact ⟨h'.1, h⟩
      · rw [if_neg e, if_neg (by rw [h'.1]; exact e)]; exact h'
  split
  · exact z
  · exact All2.snoc r ⟨rfl, h⟩
theorem KR.drop {vs : List (κ × V)} {cs : List (κ × Cl)} (r : KR K g vs cs) (k : κ) : KR K g (dropK vs k) (dropC cs k) := by
  unfold dropK dropC
  induction r with
  | nil => exact .nil
  | @cons p q ps qs h t ih =>
    rw [List.filter_cons, List.filter_cons]
    by_cases e : q.1 = k
    · rw [if_neg (by simp [h.1.trans e]), if_neg (by simp [e])]; exact ih
    · rw [if_pos (by simpa [h.1] using e), if_pos (by simpa using e)]; exact .cons h ih
end
theorem KR.merge {K : Frag} {g : Gh} {ms : List (Key × V)} {ns : List (Key × Cl)} (h : KR K g ms ns) : ∀ {vs : List (Key × V)} {cs : List (Key × Cl)}, KR K g vs cs → KR K g (mergeK vs ms) (mergeC cs ns) := by
  induction h with
  | nil => exact fun r => r
  | @cons p q ps qs h t ih =>
    intro vs cs r
    have z := r.put q.1 h.2
    have e : putK vs p.1 p.2 = putK vs q.1 p.2 := by rw [h.1]
    show KR K g (mergeK (putK vs p.1 p.2) ps) (mergeC (putC cs q.1 q.2) qs)
    rw [e]
    exact ih z
def toK : D → Option Key
  | .int i => some (.inl i)
  | .str x => some (.inr x)
  | _ => none
theorem toK_v {K : Frag} {H : Hp} {v : V} {d : D} {k : Key} (r : Rp K H v d) (h : toK d = some k) : v = kV k := by
  cases r <;> simp [toK] at h <;> subst h <;> rfl
theorem RE.dkAt {K : Frag} {G : Hp} {g : Gh} {H : Hp} {σ : L2.St} {δ : Sx} (r : RE K G g H σ δ) {l : Nat} {a : Addr} {xs : List (Key × Cl)} (h : g.r[l]? = some a) (hx : δ.s[l]? = some (.dk xs)) : ∃ vs, H a = some (.dK vs) ∧ KR K g vs xs := by
  obtain ⟨b, u, h1, h2, h3, h4⟩ := r.ob l _ hx rfl
  rw [h] at h1
  cases h1
  cases h3 with
  | dk h3 => exact ⟨_, h2, h3⟩
section
variable {X : Cx} {E : XQ} {a b e o f : Expr} {pos : Pos} {m mk mx : M D} {mc : M Cl} {ml : M Nat} {m1 m2 : M Fl}
/-- d[k] -/
def mDGet (ml : M Nat) (mk : M D) : M Cl := mBind ml fun l => mBind mk fun e δ => match δ.s[l]?, toK e with
  | some (.dk kvs), some k => match valC kvs k with
    | some c => .ok c δ
    | none => .bad
  | _, _ => .bad
theorem jc_dget (hu : X.A.units + 64 < cLine) (ho : PE X o (tOfL X.K E ml)) (hi : PE X e (tOf X.K E mk)) (hs : NoSl e) : PE X (.Subscript o e pos) (tOfC X.K E (mDGet ml mk)) :=
  pe_imp (pe_dget (by omega) ho hi hs) fun σ H Q ⟨G, g, δ, re, po⟩ => tOfL.step re po fun q l g1 H1 δ1 e1 re1 r1 po1 => tOf.step re1 po1 fun y d g2 H2 δ2 e2 re2 r2 po2 => by
    split at po2
    · rename_i kvs k hx hk
      split at po2
      · rename_i c hc
        obtain ⟨vs, h1, h2⟩ := re2.dkAt (e2.r _ _ r1) hx
        obtain ⟨v, h3, h4⟩ := h2.some hc
        refine ⟨q, v, rfl, ?_, Post.of po2 re2 v h4⟩
        rw [toK_v r2 hk, ← h3]
        exact DGet.k h1
      · exact po2.elim
    · exact po2.elim
def isDk (l : Nat) : M Nat := fun δ => match δ.s[l]? with
  | some (.dk _) => .ok l δ
  | _ => .bad
def mDGet2 (ml : M Nat) (mk : M D) (mc : M Cl) : M Cl := mBind ml fun l => mBind (isDk l) fun l => mBind mk fun e => mBind mc fun z δ => match δ.s[l]?, toK e with
  | some (.dk kvs), some k => .ok ((valC kvs k).getD z) δ
  | _, _ => .bad
/-- d[k] = x -/
def mDPut (ml : M Nat) (mk : M D) (mc : M Cl) : M Fl := mBind mc fun c => mBind ml fun l => mBind mk fun e δ => match δ.s[l]?, toK e with
  | some (.dk kvs), some k => if kvs.length < sizeLine then .ok .nx ⟨δ.e, δ.s.set l (.dk (putC kvs k c))⟩ else .bad
  | _, _ => .bad
theorem js_dput {pos' : Pos} {v : Expr} (hu : X.A.units + 64 < cLine) (ho : PE X o (tOfL X.K E ml)) (hi : PE X e (tOf X.K E mk)) (hv : PE X v (tOfC X.K E mc)) (hs : swapsWith v (some (.Subscript o e pos')) pos.line X.env = pure false := by rfl) : PS X (.Assign [.Subscript o e pos'] v pos) (tOfS X.K E (mDPut ml mk mc)) :=
  pst_imp (ps_dput (by omega) ho hi hv hs) fun B σ H ⟨G, g, δ, re, po⟩ => tOfC.stepS re po fun w c g1 H1 δ1 e1 re1 r1 po1 => tOfL.stepS re1 po1 fun q l g2 H2 δ2 e2 re2 r2 po2 => tOf.stepS re2 po2 fun y d g3 H3 δ3 e3 re3 r3 po3 => by
    split at po3
    · rename_i kvs k hx hk
      split at po3
      · rename_i hl
        have ha := e3.r _ _ r2
        obtain ⟨vs, h1, h2⟩ := re3.dkAt ha hx
        refine ⟨q, _, rfl, ?_, PostS.of po3 (re3.write hx rfl ha (.dk (h2.put k ((r1.le e2).le e3))))⟩
        rw [toK_v r3 hk]
        exact DPut.k h1 (by rw [h2.length]; exact hl)
      · exact po3.elim
    · exact po3.elim
/-- k in d, k not in d -/
def mDIn (neg : Bool) (mk : M D) (ml : M Nat) : M D := mBind mk fun e => mBind ml fun l δ => match δ.s[l]?, toK e with
  | some (.dk kvs), some k => .ok (.bool (if neg then !(valC kvs k).isSome else (valC kvs k).isSome)) δ
  | _, _ => .bad
/-- {} -/
def mDNew : M Nat := mAll (.dk [])
theorem Fro.new {K : Frag} {G : Hp} {g : Gh} {H : Hp} {σ : L2.St} {δ : Sx} {p : Addr} {o : Ob} {u : HO} (re : RE K G g H σ δ) (hp : H p = none) (h : ObR K g o u) : Fro K G g (upd H p u) p o :=
  ⟨⟨u, upd_same, h⟩, ex_none re.ex hp, (by
    cases q : G p with
    | none => rfl
    | some u => have := (re.fg p u q).1; rw [hp] at this; cases this), re.nin hp⟩
/-- {k: x, ..} -/
def evP : List (M D × M Cl) → M (List (Key × Cl))
  | [] => mPure []
  | (mk, mc) :: r => mBind mk fun e => mBind (mOpt (toK e)) fun k => mBind mc fun c => mBind (evP r) fun ps => mPure ((k, c) :: ps)
def mDisp (ps : List (M D × M Cl)) : M Nat := mBind (evP ps) fun kvs => mBind (mOpt (if kvs.length ≤ 15 then some () else none)) fun _ => mAll (.dk (mergeC [] kvs))
/-- something fresh that is nobody's, lent out to nobody -/
theorem RE.hide' {K : Frag} {G : Hp} {g : Gh} {H : Hp} {σ : L2.St} {δ : Sx} {C : Addr} {u : HO} (re : RE K G g H σ δ) (ha : H C = some u) (hs : g.h C = none) (nr : C ∉ g.r) (hu : ∀ xs, u ≠ .tup xs) (hx : ∀ fs, u ≠ .xd fs := by intro _ z; cases z) : RE K (upd G C u) g H σ δ where
  ex := re.ex
  fg := fun a o q => by
    by_cases e : a = C
    · subst e
      rw [upd_same] at q
      cases q
      exact ⟨ha, hs, nr⟩
    · rw [upd_ne e] at q
      exact re.fg a o q
  len := re.len
  rl := re.rl
  sl := re.sl
  ob := re.ob
  nd := re.nd
  al := re.al
  nt := fun a ys q => by
    have e : a ≠ C := fun z => by subst z; rw [ha] at q; cases q; exact hu ys rfl
    rw [upd_ne e]
    exact re.nt a ys q
  gx := fun a fs q => by
    by_cases e : a = C
    · subst e; rw [upd_same] at q; cases q; exact hx _ rfl
    · rw [upd_ne e] at q; exact re.gx a fs q
  fz := re.fz
inductive PPJ (X : Cx) (E : XQ) (pos : Pos) : List (Option Expr) → List Expr → List (TE × TE) → List (M D × M Cl) → Prop where
  | nil : PPJ X E pos [] [] [] []
  | cons {k v : Expr} {ks : List (Option Expr)} {vs : List Expr} {trs : List (TE × TE)} {ps : List (M D × M Cl)} {mk : M D} {mc : M Cl} : PE X k (tOf X.K E mk) → PE X v (tOfC X.K E mc) → PPJ X E pos ks vs trs ps → PPJ X E pos (some k :: ks) (v :: vs) ((tOf X.K E mk, tOfC X.K E mc) :: trs) ((mk, mc) :: ps)
theorem PPJ.pps {X : Cx} {E : XQ} {pos : Pos} {ks : List (Option Expr)} {vs : List Expr} {trs : List (TE × TE)} {ps : List (M D × M Cl)} (h : PPJ X E pos ks vs trs ps) : PPs X pos ks vs trs := by
  induction h with
  | nil => exact pps_nil
  | cons h1 h2 _ ih => exact pps_cons h1 h2 ih
theorem PPJ.all {X : Cx} {E : XQ} {pos : Pos} {ks : List (Option Expr)} {vs : List Expr} {trs : List (TE × TE)} {ps : List (M D × M Cl)} (h : PPJ X E pos ks vs trs ps) : ks.all (·.isSome) = true ∧ ks.length = vs.length := by
  induction h with
  | nil => exact ⟨rfl, rfl⟩
  | cons h1 h2 _ ih => exact ⟨by rw [List.all_cons, ih.1]; rfl, by rw [List.length_cons, List.length_cons, ih.2]⟩
theorem PPJ.read {X : Cx} {E : XQ} {pos : Pos} {ks : List (Option Expr)} {vs : List Expr} {trs : List (TE × TE)} {ps : List (M D × M Cl)} (h : PPJ X E pos ks vs trs ps) : ∀ {G : Hp} {g : Gh} {H : Hp} {σ : L2.St} {δ : Sx} {β : Type} {f : List (Key × Cl) → M β} {QQ : β → Gh → Hp → Sx → Prop} {R : List (V × V) → Hp → Prop}, RE X.K G g H σ δ → Post X.K E G g σ (mBind (evP ps) f δ) QQ →
    (∀ kvs cs g1 H1 δ1, Le g g1 → RE X.K G g1 H1 σ δ1 → KR X.K g1 kvs cs → Post X.K E G g1 σ (f cs δ1) QQ → R (kvs.map fun kv => (kV kv.1, kv.2)) H1) → tPairs trs σ H R := by
  induction h with
  | nil =>
    intro G g H σ δ β f QQ R re po k
    exact k [] [] g H δ (Le.refl _) re .nil po
  | @cons ek ev ks vs trs ps mk mc h1 h2 _ ih =>
    intro G g H σ δ β f QQ R re po k
    unfold evP at po
    rw [bind_assoc] at po
    refine tOf.step re po fun x d g1 H1 δ1 e1 re1 r1 po1 => ?_
    rw [bind_assoc] at po1
    obtain ⟨kk, hk, po2⟩ := Post.optB po1
    rw [bind_assoc] at po2
    refine tOfC.step re1 po2 fun y c g2 H2 δ2 e2 re2 r2 po3 => ?_
    rw [bind_assoc] at po3
    refine ih re2 po3 fun kvs cs g3 H3 δ3 e3 re3 r3 po4 => ?_
    have := k ((kk, y) :: kvs) ((kk, c) :: cs) g3 H3 δ3 ((e1.trans e2).trans e3) re3 (.cons ⟨rfl, r2.le e3⟩ r3) po4
    rw [List.map_cons] at this
    rw [toK_v r1 hk]
    exact this
theorem jl_disp {ks : List (Option Expr)} {vs : List Expr} {trs : List (TE × TE)} {ps : List (M D × M Cl)} (h : PPJ X E pos ks vs trs ps) (h0 : ks ≠ []) (h15 : ks.length ≤ 15) : PE X (.Dict ks vs pos) (tOfL X.K E (mDisp ps)) :=
  pe_imp (pe_disp h.pps h.all.1 h.all.2 h0 h15) fun σ H Q ⟨G, g, δ, re, po⟩ p hp => by
    have en : Ex H (upd H p (.dK [])) := ex_new hp
    have f := Fro.new (o := .dk []) re hp (.dk .nil)
    have re1 := (re.newH en).hide' (C := p) (u := .dK []) upd_same f.hs f.nr (fun _ z => nomatch z)
    have po' : Post X.K E (upd G p (.dK [])) g σ (mBind (evP ps) (fun kvs => mPure kvs) δ) fun kvs g' H' δ' => ∃ g2 H2 δ2, RE X.K (upd G p (.dK [])) g' H' σ δ' ∧ (∀ u, RE X.K G g' u σ δ' → Post X.K E G g' σ (mBind (mOpt (if kvs.length ≤ 15 then some () else none)) (fun _ => mAll (.dk (mergeC [] kvs))) δ') fun l g' H' _ => ∀ a, g'.r[l]? = some a → Q (.ref a) H') ∧ g2 = g' ∧ H2 = H' ∧ δ2 = δ' := by
      unfold mDisp at po
      unfold mBind at po ⊢
      cases q : evP ps δ with
      | ok kvs δ1 =>
        rw [q] at po
        exact fun g' H' e r => ⟨g', H', δ1, r, fun u _ => Post.ex po e, rfl, rfl, rfl⟩
      | exc x δ1 =>
        rw [q] at po
        intro g' H' e r
        have hr := r.shown (u := .dK []) (C := p) f.gg
        have z := po g' _ e hr
        have hu : upd H' p (.dK []) = H' := by
          funext b
          by_cases hb : b = p
          · subst hb; rw [upd_same]; exact ((r.fg b _ upd_same).1).symm
          · rw [upd_ne hb]
        rw [hu] at z
        exact z
      | bad => rw [q] at po; exact po
    refine h.read re1 po' fun kvs cs g2 H2 δ2 e2 re2 r2 po2 => ?_
    obtain ⟨_, _, _, re3, po3, _⟩ := po2 g2 H2 (Le.refl _) re2
    have hf := re2.fg p _ upd_same
    refine ⟨hf.1, kvs, rfl, ?_, ?_⟩
    · have := po3 _ (re2.shown (u := .dK []) f.gg)
      obtain ⟨_, h1, _⟩ := Post.optB this
      split at h1
      · rename_i hl
        rw [r2.length]; exact hl
      · cases h1
    · have re4 := re2.shown (u := .dK (mergeK [] kvs)) f.gg
      obtain ⟨_, h1, po4⟩ := Post.optB (po3 _ re4)
      have fr : Fro X.K G g2 (upd H2 p (.dK (mergeK [] kvs))) p (.dk (mergeC [] cs)) := ⟨⟨_, upd_same, .dk (KR.merge r2 .nil)⟩, hf.2.1, f.gg, hf.2.2⟩
      obtain ⟨g5, k1, k2⟩ := allS re4 fr po4
      exact k1 p k2
def mUpd (ml mo : M Nat) : M Fl := mBind ml fun l => mBind (isDk l) fun l => mBind mo fun k δ => match δ.s[l]?, δ.s[k]? with
  | some (.dk kvs), some (.dk more) => if l ≠ k ∧ kvs.length + more.length ≤ sizeLine then .ok .nx ⟨δ.e, δ.s.set l (.dk (mergeC kvs more))⟩ else .bad
  | _, _ => .bad
end
end Ds
namespace Ds
open PySem PySem.Spec PyProof.Rows L2 PySem.Froz
section
variable {P : Program} {w : World} {A : Around} {E : Value → Shared → Prop} {s : Shared} {a : Addr} {l : List Str}
def TxSet (P : Program) (w : World) (h : Heap) (a : Addr) (l : List Str) : Prop :=
  ∃ D : SD, h.get? a = some (sObj "set" D) ∧ TxOk P w D l ∧ Ris D.2.2.place.toList ∧ (w.params.followText "set-order" = true ∨ D.2.2.led = true) ∧ l.Nodup ∧ l.length < scanBound
theorem TxSet.at_ {h h' : Heap} (R : TxSet P w h a l) (k : ∀ o, h.get? a = some o → h'.get? a = some o) : TxSet P w h' a l := by
  obtain ⟨D, ho, r⟩ := R
  exact ⟨D, k _ ho, r⟩
def setNo (w : World) : Obj := { cls := .type "set", dict := none, data := .set #[] 0 (.fresh 0 0 (!w.params.followText "set-order")) }
theorem TxSet.none {h : Heap} (ho : h.get? a = some (setNo w)) : TxSet P w h a [] :=
  ⟨(#[], 0, .fresh 0 0 (!w.params.followText "set-order")), ho, TxOk.nil rfl, List.Pairwise.nil, by
    show _ ∨ (!w.params.followText "set-order") = true
    cases w.params.followText "set-order"
    · exact .inr rfl
    · exact .inl rfl, List.nodup_nil, by decide⟩
theorem tail_ris {ep : Nat} {es1 : Array (Int × Value)} {t2 : SetTable} {b : Bool} (r : Ris t2.place.toList) : Ris (tailTx ep es1 t2 b).2.2.place.toList ∧ (tailTx ep es1 t2 b).2.2.led = t2.led := by
  unfold tailTx
  split
  · exact ⟨relayAll_ris _ _ _, relayAll_led _ _ _⟩
  · exact ⟨r, rfl⟩
theorem add_ris {D : SD} {h : Int} {v : Value} (r : Ris D.2.2.place.toList) : Ris (addTx h v D).2.2.place.toList ∧ (addTx h v D).2.2.led = D.2.2.led := by
  unfold addTx
  have r1 := layNew_ris D.2.2 D.1 h v r
  have l1 := layNew_led D.2.2 D.1 h v
  split
  · obtain ⟨a1, a2⟩ := tail_ris (ep := D.2.1) (es1 := (layNew D.2.2 D.1 h v).1) (b := (layNew D.2.2 D.1 h v).2.2.1) (t2 := { (layNew D.2.2 D.1 h v).2.1 with plain := false }) r1
    exact ⟨a1, a2.trans l1⟩
  · obtain ⟨a1, a2⟩ := tail_ris (ep := D.2.1) (es1 := (layNew D.2.2 D.1 h v).1) (b := (layNew D.2.2 D.1 h v).2.2.1) r1
    exact ⟨a1, a2.trans l1⟩
def addT (l : List Str) (k : Str) : List Str := if k ∈ l then l else k :: l
theorem TxSet.add {k : Str} {u : Tok} {Q : Bool → Shared → Prop} (R : TxSet P w s.heap a l) (hb : l.length + 1 < scanBound)
    (hQ : ∀ (h' : Heap) (b : Bool), Heap.SameBut a s.heap h' → TxSet P w h' a (addT l k) → Q b { s with heap := h' }) : wpAny (model P w) A (setAddHashed a (.str k u) (hashStr w k)) Q E s := by
  obtain ⟨D, ho, F, r, hl, nd, hlen⟩ := R
  by_cases hk : k ∈ l
  · obtain ⟨es, ep, t⟩ := D
    have hkey : (strKind P w).is k (.str k u) = true := is_str k u
    have hel : ElemsOf (strKind P w) es.toList := F.el
    have hsz : es.size = l.length := F.sz
    unfold setAddHashed setAddHashedIn
    refine wpAny_holding (wpAny_bind (wpAny_setState_of ho rfl F.fit ?_))
    dsimp only
    rw [byScan_of rfl (by omega) hel]
    simp only [↓reduceIte]
    unfold setAddByScan
    refine wpAny_bind ?_
    refine wpAny_bind (wpAny_rule ?_)
    refine wpAny_bind (wpAny_setScan_of hkey ho rfl F.fit hel ?_)
    cases hfi : List.findIdx? (fun e => (strKind P w).is k e.2) es.toList with
    | some j =>
      dsimp only
      refine wpAny_pure (wpAny_pure ?_)
      refine hQ s.heap false (Heap.SameBut.refl a s.heap) ?_
      unfold addT
      rw [if_pos hk]
      exact ⟨(es, ep, t), ho, F, r, hl, nd, hlen⟩
    | none =>
      obtain ⟨e, he, q⟩ := (F.mem k).mp hk
      have c := List.findIdx?_eq_none_iff.mp hfi e he
      rw [q] at c
      cases c
  · refine add_x ho F hk hb ?_
    have hlt : a < s.heap.objs.size := Heap.lt_size ho
    refine hQ _ true ?_ ?_
    · exact Heap.SameBut.update _ _ _
    · unfold addT
      rw [if_neg hk]
      obtain ⟨r1, r2⟩ := add_ris (h := hashStr w k) (v := .str k u) r
      exact ⟨_, get_upd _ ho rfl, add_ok u F, r1, hl.imp id fun z => r2.trans z, List.nodup_cons.mpr ⟨hk, nd⟩, hb⟩
def metT (xs : List Str) : List Str := xs.foldl addT []
theorem metT_take {xs : List Str} {i : Nat} {x : Str} (h : xs[i]? = some x) : metT (xs.take (i + 1)) = addT (metT (xs.take i)) x := by
  unfold metT
  rw [List.take_add_one, h, List.foldl_append]
  rfl
theorem addT_len (l : List Str) (x : Str) : (addT l x).length ≤ l.length + 1 := by
  unfold addT
  split
  · omega
  · simp
theorem metT_len (xs : List Str) : (metT xs).length ≤ xs.length := by
  have h : ∀ (xs l : List Str), (xs.foldl addT l).length ≤ l.length + xs.length := fun xs => by
    induction xs with
    | nil => intro l; simp
    | cons x r ih =>
      intro l
      have h1 := ih (addT l x)
      have h2 := addT_len l x
      rw [List.foldl_cons, List.length_cons]
      omega
  have := h xs []
  simpa [metT] using this
theorem texts_in {C : Addr} {fp wr : List Addr} {G : Array GenState → Array GenState → Prop} {n : Nat} {Pv : Nat → Value → Prop} {St : Nat → Shared → Prop} {R : Result → Shared → Prop} {I : Addr}
    (W : WalksS P w A.in1 I fp wr G n Pv St) (hC : C ∉ fp) (xs : List Str) (hn : n = xs.length) (hb : xs.length + 1 < scanBound) (hv : ∀ i v, Pv i v → ∃ k t, xs[i]? = some k ∧ v = .str k t) (m : Nat) :
    ∀ (i : Nat) (s : Shared), n - i = m → i ≤ n → St i s → TxSet P w s.heap C (metT (xs.take i)) →
      (∀ s', Moved (C :: wr) G s s' → TxSet P w s'.heap C (metT xs) → R (.ok (.ret .none)) s') → codeAny (model P w) A (.builtin "set.update.loop" ⟨[.ref C, .ref I], []⟩) R s := by
  have cw : C ∉ wr := fun h => hC (W.sub _ h)
  have ws : ∀ b ∈ wr, b ∈ C :: wr := fun b hb => List.mem_cons_of_mem _ hb
  induction m with
  | zero =>
    intro i s hm hi st hS hR
    obtain rfl : i = n := by omega
    refine codeAny_builtin F.entry_set_update_loop ?_
    rw [Around.under_plainId F.plain_set_update_loop _]
    show wpAny _ A.in1 (pyNext (.ref I) >>= _) _ _ s
    refine wpAny_bind (W.done s _ _ st fun s1 mv => ?_)
    rw [List.take_of_length_le (by omega)] at hS
    exact wpAny_pure (hR s1 (mv.mono ws) (hS.at_ fun o e => mv.heap C o cw e))
  | succ m ih =>
    intro i s hm hi st hS hR
    have lt : i < n := by omega
    refine codeAny_builtin F.entry_set_update_loop ?_
    rw [Around.under_plainId F.plain_set_update_loop _]
    show wpAny _ A.in1 (pyNext (.ref I) >>= _) _ _ s
    refine wpAny_bind (W.item i s _ _ lt st fun v s1 hp st1 mv => ?_)
    obtain ⟨z, t, hz, rfl⟩ := hv i v hp
    show wpAny _ A.in1 (holding [Value.str z t] (setAdd C (.str z t)) >>= _) _ _ s1
    refine wpAny_bind (wpAny_holding ?_)
    unfold setAdd
    refine wpAny_holding ?_
    refine wpAny_bind ((strKind P w).pyHash (k := z) (is_str z t) ?_)
    have hlen := metT_len (xs.take i)
    rw [List.length_take] at hlen
    refine TxSet.add (s := { s1 with toks := s1.toks + 1 }) (hS.at_ fun o e => mv.heap C o cw e) (by omega) fun h2 b2 sb hS2 => ?_
    rw [← metT_take hz] at hS2
    refine wpAny_pure ⟨plainId_quiet F.plain_set_update_loop _, ih (i + 1) _ (by omega) lt (W.frame _ s1 _ _ st1 (Nat.le_succ _) fun b hb o e => ?_) hS2 fun s3 mv3 hS3 => ?_⟩
    · rw [sb.2 b (fun q : b = C => hC (q ▸ hb))]; exact e
    · refine hR s3 (Moved.trans W.gtrans ((mv.mono ws).then_heap (Nat.le_succ _) fun b o hb e => ?_) mv3) hS3
      rw [sb.2 b (fun q : b = C => hb (by rw [q]; exact List.mem_cons_self))]; exact e
set_option maxHeartbeats 8000000 in
theorem set_of_list {p : Addr} {items : Array Value} (xs : List Str) {Q : Value → Shared → Prop} (hh : A.handled = none) (hp : s.heap.IsList p items) (hi : StrsAre items.toList xs) (hb : xs.length + 1 < scanBound)
    (h : ∀ (h2 : Heap) (tk : Nat), TxSet P w h2 s.heap.objs.size (metT xs) → (∀ b o, s.heap.get? b = some o → h2.get? b = some o) → Q (.ref s.heap.objs.size) { s with heap := h2, toks := tk }) : wpAny (model P w) A (call (.type "set") [.ref p]) Q E s := by
  have hsz : items.size = xs.length := by
    have q := hi.length
    rwa [Array.length_toList] at q
  obtain ⟨c0, t0, hmro⟩ := PySem.F.called_set.mro
  have hmade0 := PySem.F.called_set.made
  have hsub0 := PySem.F.called_set.sub
  refine wpAny_call (codeAny_of_tree ?_)
  show wpAny _ _ (callAny (.type "set") _) _ _ _
  refine wpAny_pure ⟨Code.quiet_builtin _ (by decide +kernel), codeAny_builtin PySem.F.entry_type_call ?_⟩
  rw [Around.under_plain (weight_type_call_type "set" [.ref p] []) rfl]
  have f1 := PySem.F.called_set.notType
  have f2 := PySem.F.called_set.canCreate
  have f3 := PySem.F.typeCall_set_1 (.ref p)
  repeat (any_goals (first | assumption | wp_step))
  refine codeAny_mono (code_set_led1 (.ref p) (E := E) (Q₁ := fun z s1 => z = .ref s.heap.objs.size ∧ s1 = { s with heap := s.heap.push (setNo w) }) ⟨rfl, rfl⟩) fun r s1 hr => ?_
  cases r with
  | error e => exact hr
  | ok fl =>
    cases fl with
    | ret z =>
      obtain ⟨rfl, rfl⟩ := hr
      have at0 : (s.heap.push (setNo w)).get? s.heap.objs.size = some (setNo w) := Heap.get?_push_size _ rfl
      have ty0 : Shared.TypeIs { s with heap := s.heap.push (setNo w) } (.ref s.heap.objs.size) "set" := ⟨_, at0, rfl⟩
      have g1 := PySem.F.called_set.init.lookup
      have g2 := PySem.F.called_set.init.bind (.ref s.heap.objs.size)
      repeat (any_goals (first | assumption | wp_step))
      refine codeAny_mono (codeAny_call_builtin (R := wants (fun r s2 => r = .none ∧ ∃ h2 tk, s2 = { s with heap := h2, toks := tk } ∧ TxSet P w h2 s.heap.objs.size (metT xs) ∧
          (∀ b o, s.heap.get? b = some o → h2.get? b = some o)) E) PySem.F.called_set.init.plain PySem.F.entry_set_init (check_set_init_1 ty0 ?_)) fun r2 s2 hr2 => ?_
      · obtain ⟨op, hop, hcl, nn, hdl⟩ := hp
        obtain ⟨ocls, odict, odata, oslots⟩ := op
        simp only at hcl hdl
        subst hcl; subst hdl
        have q1 := PySem.F.sub_list_set
        have q2 := PySem.F.sub_list_frozenset
        have q3 : (Value.type "list" == Value.type "dict") = false := by decide
        have hop2 : (s.heap.push (setNo w)).get? p = some { cls := .type "list", dict := odict, data := .seq items nn, slots := oslots } := Heap.get?_push_of_some _ hop
        have p1 : (s.heap.push (setNo w)).IsList p items := ⟨_, hop2, rfl, nn, rfl⟩
        unfold Builtin.«set.__init__» noKeywords Builtin.Frozenset.updateFrom
        generalize hPI : pyIter = PI
        wp_walk
        subst hPI
        refine wpAny_pyIter_list p1 ?_
        refine wpAny_bind (wpAny_runValue ?_)
        have plt : p < s.heap.objs.size := Heap.lt_size hop
        have hh3 : A.in1.in1.in1.handled = none := by simp [hh]
        have neI : p ≠ (s.heap.push (setNo w)).objs.size := by
          rw [Heap.size_push]; exact Nat.ne_of_lt (Nat.lt_succ_of_lt plt)
        have nf : s.heap.objs.size ∉ [(s.heap.push (setNo w)).objs.size, p] := by
          rw [Heap.size_push]
          simp only [List.mem_cons, List.not_mem_nil, or_false, not_or]
          exact ⟨Nat.ne_of_lt (Nat.lt_succ_self _), Nat.ne_of_gt plt⟩
        have hv : ∀ (i : Nat) (v : Value), items[i]? = some v → ∃ k t, xs[i]? = some k ∧ v = .str k t := fun i v hv => by
          have hi2 : i < xs.length := by rw [← hsz]; exact (Array.getElem?_eq_some_iff.mp hv).1
          obtain ⟨t, e⟩ := SS.strs_at hi i v (by rw [Array.getElem?_toList]; exact hv)
          refine ⟨xs[i], t, List.getElem?_eq_getElem hi2, ?_⟩
          rw [e, List.getD_eq_getElem?_getD, List.getElem?_eq_getElem hi2] <;> rfl
        refine texts_in ((Walks.list hh3 _ p neI items).toS) (C := s.heap.objs.size) nf xs hsz hb hv (items.size - 0) 0 _ (by omega) (Nat.zero_le _) ⟨⟨_, Heap.get?_push_size _ rfl, rfl, rfl⟩, (p1.push _)⟩ ?hS0 ?hR
        case hS0 =>
          exact TxSet.none (Heap.get?_push_of_some _ at0)
        case hR =>
          intro s3 mv hS3
          obtain ⟨h3, n3, d3, t3, o3⟩ := s3
          have e1 : n3 = s.gens := mv.gens
          have e2 : d3 = s.drawn := mv.drawn
          have e3 : o3 = s.os := mv.os
          subst e1; subst e2; subst e3
          show wpAny _ _ _ _ _ _
          refine wpAny_pure ?_
          show wpAny _ _ (ret Value.none) _ _ _
          refine wpAny_pure ⟨rfl, h3, t3, rfl, hS3, fun b o e => ?_⟩
          have lb : b < s.heap.objs.size := Heap.lt_size e
          have n1 : b ≠ s.heap.objs.size := Nat.ne_of_lt lb
          have n2 : b ≠ (s.heap.push (setNo w)).objs.size := by
            rw [Heap.size_push]; exact Nat.ne_of_lt (Nat.lt_succ_of_lt lb)
          exact mv.heap b o (by simp only [List.mem_cons, List.not_mem_nil, or_false, not_or]; exact ⟨n1, n2⟩) (Heap.get?_push_of_some _ (Heap.get?_push_of_some _ e))
      · cases r2 with
        | error e => exact hr2
        | ok fl2 =>
          cases fl2 with
          | ret r =>
            obtain ⟨rfl, h2, tk, rfl, hS2, k2⟩ := hr2
            repeat (any_goals (first | assumption | wp_step))
            exact h _ _ hS2 k2
          | _ => exact hr2.elim
    | _ => exact hr.elim
set_option maxHeartbeats 8000000 in
theorem set_of_tuple {p : Addr} {items : Array Value} (xs : List Str) {Q : Value → Shared → Prop} (hh : A.handled = none) (hp : s.heap.IsTuple p items) (hi : StrsAre items.toList xs) (hb : xs.length + 1 < scanBound)
    (h : ∀ (h2 : Heap) (tk : Nat), TxSet P w h2 s.heap.objs.size (metT xs) → (∀ b o, s.heap.get? b = some o → h2.get? b = some o) → Q (.ref s.heap.objs.size) { s with heap := h2, toks := tk }) : wpAny (model P w) A (call (.type "set") [.ref p]) Q E s := by
  have hsz : items.size = xs.length := by
    have q := hi.length
    rwa [Array.length_toList] at q
  obtain ⟨c0, t0, hmro⟩ := PySem.F.called_set.mro
  have hmade0 := PySem.F.called_set.made
  have hsub0 := PySem.F.called_set.sub
  refine wpAny_call (codeAny_of_tree ?_)
  show wpAny _ _ (callAny (.type "set") _) _ _ _
  refine wpAny_pure ⟨Code.quiet_builtin _ (by decide +kernel), codeAny_builtin PySem.F.entry_type_call ?_⟩
  rw [Around.under_plain (weight_type_call_type "set" [.ref p] []) rfl]
  have f1 := PySem.F.called_set.notType
  have f2 := PySem.F.called_set.canCreate
  have f3 := PySem.F.typeCall_set_1 (.ref p)
  repeat (any_goals (first | assumption | wp_step))
  refine codeAny_mono (code_set_led1 (.ref p) (E := E) (Q₁ := fun z s1 => z = .ref s.heap.objs.size ∧ s1 = { s with heap := s.heap.push (setNo w) }) ⟨rfl, rfl⟩) fun r s1 hr => ?_
  cases r with
  | error e => exact hr
  | ok fl =>
    cases fl with
    | ret z =>
      obtain ⟨rfl, rfl⟩ := hr
      have at0 : (s.heap.push (setNo w)).get? s.heap.objs.size = some (setNo w) := Heap.get?_push_size _ rfl
      have ty0 : Shared.TypeIs { s with heap := s.heap.push (setNo w) } (.ref s.heap.objs.size) "set" := ⟨_, at0, rfl⟩
      have g1 := PySem.F.called_set.init.lookup
      have g2 := PySem.F.called_set.init.bind (.ref s.heap.objs.size)
      repeat (any_goals (first | assumption | wp_step))
      refine codeAny_mono (codeAny_call_builtin (R := wants (fun r s2 => r = .none ∧ ∃ h2 tk, s2 = { s with heap := h2, toks := tk } ∧ TxSet P w h2 s.heap.objs.size (metT xs) ∧
          (∀ b o, s.heap.get? b = some o → h2.get? b = some o)) E) PySem.F.called_set.init.plain PySem.F.entry_set_init (check_set_init_1 ty0 ?_)) fun r2 s2 hr2 => ?_
      · obtain ⟨op, hop, hcl, nn, hdl⟩ := hp
        obtain ⟨ocls, odict, odata, oslots⟩ := op
        simp only at hcl hdl
        subst hcl; subst hdl
        have q1 := PySem.F.sub_tuple_set
        have q2 := PySem.F.sub_tuple_frozenset
        have q3 : (Value.type "tuple" == Value.type "dict") = false := by decide
        have hop2 : (s.heap.push (setNo w)).get? p = some { cls := .type "tuple", dict := odict, data := .seq items nn, slots := oslots } := Heap.get?_push_of_some _ hop
        have p1 : (s.heap.push (setNo w)).IsTuple p items := ⟨_, hop2, rfl, nn, rfl⟩
        unfold Builtin.«set.__init__» noKeywords Builtin.Frozenset.updateFrom
        generalize hPI : pyIter = PI
        wp_walk
        subst hPI
        refine wpAny_pyIter_tuple p1 ?_
        refine wpAny_bind (wpAny_runValue ?_)
        have plt : p < s.heap.objs.size := Heap.lt_size hop
        have hh3 : A.in1.in1.in1.handled = none := by simp [hh]
        have neI : p ≠ (s.heap.push (setNo w)).objs.size := by
          rw [Heap.size_push]; exact Nat.ne_of_lt (Nat.lt_succ_of_lt plt)
        have nf : s.heap.objs.size ∉ [(s.heap.push (setNo w)).objs.size, p] := by
          rw [Heap.size_push]
          simp only [List.mem_cons, List.not_mem_nil, or_false, not_or]
          exact ⟨Nat.ne_of_lt (Nat.lt_succ_self _), Nat.ne_of_gt plt⟩
        have hv : ∀ (i : Nat) (v : Value), items[i]? = some v → ∃ k t, xs[i]? = some k ∧ v = .str k t := fun i v hv => by
          have hi2 : i < xs.length := by rw [← hsz]; exact (Array.getElem?_eq_some_iff.mp hv).1
          obtain ⟨t, e⟩ := SS.strs_at hi i v (by rw [Array.getElem?_toList]; exact hv)
          refine ⟨xs[i], t, List.getElem?_eq_getElem hi2, ?_⟩
          rw [e, List.getD_eq_getElem?_getD, List.getElem?_eq_getElem hi2] <;> rfl
        refine texts_in ((Walks.tuple hh3 _ p neI items).toS) (C := s.heap.objs.size) nf xs hsz hb hv (items.size - 0) 0 _ (by omega) (Nat.zero_le _) ⟨⟨_, Heap.get?_push_size _ rfl, rfl, rfl⟩, (p1.push _)⟩ ?hS0 ?hR
        case hS0 =>
          exact TxSet.none (Heap.get?_push_of_some _ at0)
        case hR =>
          intro s3 mv hS3
          obtain ⟨h3, n3, d3, t3, o3⟩ := s3
          have e1 : n3 = s.gens := mv.gens
          have e2 : d3 = s.drawn := mv.drawn
          have e3 : o3 = s.os := mv.os
          subst e1; subst e2; subst e3
          show wpAny _ _ _ _ _ _
          refine wpAny_pure ?_
          show wpAny _ _ (ret Value.none) _ _ _
          refine wpAny_pure ⟨rfl, h3, t3, rfl, hS3, fun b o e => ?_⟩
          have lb : b < s.heap.objs.size := Heap.lt_size e
          have n1 : b ≠ s.heap.objs.size := Nat.ne_of_lt lb
          have n2 : b ≠ (s.heap.push (setNo w)).objs.size := by
            rw [Heap.size_push]; exact Nat.ne_of_lt (Nat.lt_succ_of_lt lb)
          exact mv.heap b o (by simp only [List.mem_cons, List.not_mem_nil, or_false, not_or]; exact ⟨n1, n2⟩) (Heap.get?_push_of_some _ (Heap.get?_push_of_some _ e))
      · cases r2 with
        | error e => exact hr2
        | ok fl2 =>
          cases fl2 with
          | ret r =>
            obtain ⟨rfl, h2, tk, rfl, hS2, k2⟩ := hr2
            repeat (any_goals (first | assumption | wp_step))
            exact h _ _ hS2 k2
          | _ => exact hr2.elim
    | _ => exact hr.elim
end
end Ds
namespace Ds
open PySem PySem.Spec PyProof.Rows L2 PySem.Froz
def leS (a b : Str) : Bool := !ltCps b.cps.toList a.cps.toList
def sortT (xs : List Str) : List Str := xs.mergeSort leS
theorem leS_lt (a b : Str) : leS a b = !decide (b.cps.toList < a.cps.toList) := by unfold leS; rw [ltCps_eq]
theorem leS_total (a b : Str) : (leS a b || leS b a) = true := by
  rw [leS_lt, leS_lt]
  by_cases h : b.cps.toList < a.cps.toList
  · have h2 : ¬ a.cps.toList < b.cps.toList := List.lt_asymm h
    simp [h, h2]
  · simp [h]
theorem leS_trans (a b c : Str) (h1 : leS a b = true) (h2 : leS b c = true) : leS a c = true := by
  rw [leS_lt] at *
  have h1 : ¬ b.cps.toList < a.cps.toList := by simpa using h1
  have h2 : ¬ c.cps.toList < b.cps.toList := by simpa using h2
  have : ¬ c.cps.toList < a.cps.toList := fun h => by
    have := List.le_trans (List.not_lt.mp h1) (List.not_lt.mp h2)
    exact List.not_lt.mpr this h
  simpa using this
theorem leS_anti {a b : Str} (h1 : leS a b = true) (h2 : leS b a = true) : a = b := by
  rw [leS_lt] at *
  have h1 : ¬ b.cps.toList < a.cps.toList := by simpa using h1
  have h2 : ¬ a.cps.toList < b.cps.toList := by simpa using h2
  exact Str.ext' (Array.toList_inj.mp (List.le_antisymm (List.not_lt.mp h1) (List.not_lt.mp h2)))
theorem rising_le : ∀ {l : List Str} {p : Str}, risingS p l = true → (p :: l).Pairwise fun a b => leS a b = true
  | [], p, _ => List.pairwise_singleton _ _
  | x :: r, p, h => by
    have h : (!ltCps x.cps.toList p.cps.toList && risingS x r) = true := h
    rw [Bool.and_eq_true] at h
    have ih := rising_le h.2
    refine List.pairwise_cons.mpr ⟨fun y hy => ?_, ih⟩
    rcases List.mem_cons.mp hy with e | hy
    · subst e; exact h.1
    · exact leS_trans p x y h.1 ((List.pairwise_cons.mp ih).1 y hy)
theorem sortedS_le {l : List Str} (h : sortedS l = true) : l.Pairwise fun a b => leS a b = true := by
  cases l with
  | nil => exact List.Pairwise.nil
  | cons x r => exact rising_le h
theorem sort_one : ∀ {xs ys : List Str}, (xs.Pairwise fun a b => leS a b = true) → (ys.Pairwise fun a b => leS a b = true) → xs.Perm ys → xs = ys
  | [], ys, _, _, p => (List.nil_perm.mp p).symm
  | x :: xs, [], _, _, p => absurd p (List.not_perm_cons_nil)
  | x :: xs, y :: ys, h1, h2, p => by
    have e : x = y := by
      have m1 := p.mem_iff.mp (List.mem_cons_self (a := x))
      have m2 := p.mem_iff.mpr (List.mem_cons_self (a := y))
      rcases List.mem_cons.mp m1 with e | m1
      · exact e
      · rcases List.mem_cons.mp m2 with e | m2
        · exact e.symm
        · exact leS_anti ((List.pairwise_cons.mp h1).1 y m2) ((List.pairwise_cons.mp h2).1 x m1)
    subst e
    rw [sort_one (List.pairwise_cons.mp h1).2 (List.pairwise_cons.mp h2).2 (List.perm_cons x |>.mp p)]
theorem sortT_of {xs ys : List Str} (h : sortedS ys = true) (p : ys.Perm xs) : ys = sortT xs :=
  sort_one (sortedS_le h) (List.pairwise_mergeSort leS_trans leS_total xs) (p.trans (List.mergeSort_perm xs leS).symm)
theorem mem_addT {l : List Str} {x y : Str} : y ∈ addT l x ↔ y ∈ l ∨ y = x := by
  unfold addT
  split
  · rename_i h
    exact ⟨.inl, fun z => z.elim id fun e => e ▸ h⟩
  · rw [List.mem_cons]
    exact Or.comm
theorem mem_metT {xs : List Str} {y : Str} : y ∈ metT xs ↔ y ∈ xs := by
  have h : ∀ (xs l : List Str), y ∈ xs.foldl addT l ↔ y ∈ l ∨ y ∈ xs := fun xs => by
    induction xs with
    | nil => intro l; simp
    | cons x r ih =>
      intro l
      rw [List.foldl_cons, ih, mem_addT, List.mem_cons]
      exact or_assoc
  have := h xs []
  simpa [metT] using this
theorem metT_nodup (xs : List Str) : (metT xs).Nodup := by
  have h : ∀ (xs l : List Str), l.Nodup → (xs.foldl addT l).Nodup := fun xs => by
    induction xs with
    | nil => intro l h; exact h
    | cons x r ih =>
      intro l h
      refine ih _ ?_
      unfold addT
      split
      · exact h
      · rename_i hx
        exact List.nodup_cons.mpr ⟨hx, h⟩
  exact h xs [] List.nodup_nil
theorem sortT_same {xs ys : List Str} (h : ∀ z, z ∈ xs ↔ z ∈ ys) : sortT (metT xs) = sortT (metT ys) := by
  have p : (metT xs).Perm (metT ys) := (List.perm_ext_iff_of_nodup (metT_nodup xs) (metT_nodup ys)).mpr fun z => by rw [mem_metT, mem_metT, h]
  exact sort_one (List.pairwise_mergeSort leS_trans leS_total _) (List.pairwise_mergeSort leS_trans leS_total _) ((List.mergeSort_perm _ _).trans (p.trans (List.mergeSort_perm _ _).symm))
theorem perm_of_in : ∀ {l m : List Str}, l.Nodup → (∀ x ∈ l, x ∈ m) → m.length ≤ l.length → l.Perm m
  | [], m, _, _, hl => by
    have : m = [] := List.length_eq_zero_iff.mp (by simpa using hl)
    rw [this]
  | x :: l, m, nd, sub, hl => by
    obtain ⟨n1, n2⟩ := List.nodup_cons.mp nd
    have hx := sub x List.mem_cons_self
    have p := List.perm_cons_erase hx
    have hlen := p.length_eq
    rw [List.length_cons] at hlen hl
    refine (List.Perm.cons x (perm_of_in n2 (fun y hy => ?_) (by omega))).trans p.symm
    have hne : y ≠ x := fun e => n1 (e ▸ hy)
    exact (List.mem_erase_of_ne hne).mpr (sub y (List.mem_cons_of_mem _ hy))
def SetX (P : Program) (w : World) (a : Addr) (l : List Str) : HO := .ext fun h => TxSet P w h a l
theorem setX_new {P : Program} {w : World} {H : Hp} {h : Heap} {a : Addr} {l : List Str} (R : TxSet P w h a l) : ObjOk P w H h a (SetX P w a l) := by
  have ⟨D, ho, _⟩ := R
  exact ⟨R, ⟨_, ho⟩, fun h1 h2 p k => TxSet.at_ p k⟩
section
variable {X : Cx}
theorem setX_get {pins : List (Addr × Obj)} {σ : L2.St} {H : Hp} {s : Shared} {a : Addr} {l : List Str} (I : Inv X pins σ H s) (ha : H a = some (SetX X.prog X.w a l)) : TxSet X.prog X.w s.heap a l := (I.hok a _ ha).1
def rSetX (P : Program) (w : World) (K : PySem.W.Frag) : List V → Hp → VK → Prop := fun xs H Q => ∃ (p : Addr) (ts : List Str), xs = [.ref p] ∧ (SqL K H p (ts.map V.str) ∨ SqT K H p (ts.map V.str)) ∧ ts.length + 1 < scanBound ∧ ∀ q, H q = none → Q (.ref q) (upd H q (SetX P w q (metT ts)))
theorem cr_setX (hc : X.calm = true) : CallR X (.type "set") (rSetX X.prog X.w X.K) := by
  intro pins s σ H xs us Q I r h
  obtain ⟨p, ts, rfl, hs, hb, q⟩ := h
  rw [Vals.ref1 r]
  have fin : ∀ (h2 : Heap) (tk : Nat), TxSet X.prog X.w h2 s.heap.objs.size (metT ts) → (∀ b o, s.heap.get? b = some o → h2.get? b = some o) → EP X pins σ Q (.ref s.heap.objs.size) { s with heap := h2, toks := tk } := fun h2 tk R k =>
    ⟨.ref _, upd H s.heap.objs.size (SetX X.prog X.w s.heap.objs.size (metT ts)), I.laid (t' := tk) k (Nat.le_refl _) (setX_new R), rfl, q _ (I.hok.fresh (Nat.le_refl _))⟩
  rcases hs with hs | hs
  · obtain ⟨its, rv, hl, _⟩ := I.list hs
    exact set_of_list ts (I.ok.hd hc) hl.isList (by simpa using strsAre_of rv) hb fin
  · obtain ⟨its, rv, hl, _⟩ := I.tuple hs
    exact set_of_tuple ts (I.ok.hd hc) (show s.heap.IsTuple p its.toArray from hl) (by simpa using strsAre_of rv) hb fin
def rSortX (P : Program) (w : World) : List V → Hp → VK → Prop := fun xs H Q => ∃ (a : Addr) (l : List Str), xs = [.ref a] ∧ H a = some (SetX P w a l) ∧ ∀ p, H p = none → Q (.ref p) (upd H p (.lst ((sortT l).map V.str)))
theorem cr_sortX (hc : X.calm = true) : CallR X (.builtin "sorted") (rSortX X.prog X.w) := by
  intro pins s σ H xs us Q I r h
  obtain ⟨a, l, rfl, ha, q⟩ := h
  rw [Vals.ref1 r]
  obtain ⟨D, ho, F, r1, hled, nd, hb⟩ := setX_get I ha
  have hz : D.1.size = l.length := F.sz
  have hh : X.A.handled = none := I.ok.hd hc
  have hsb : scanBound = 4096 := rfl
  have hln : sizeLine = 16777216 := rfl
  refine Calls.call_function_entry kind_sorted plain_sorted entry_sorted (args_sorted1 _) ?_
  unfold Builtin.«sorted»
  refine wpAny_bind (m := checkCount "sorted" 1 1 _) (wpAny_pure ?_)
  refine wpAny_bind (collect_set (A := X.A.in1) hh ⟨_, ho, rfl, rfl⟩ F.fit (by show D.1.size < _; omega) r1 hled fun s1 vs k1 z1 g1 o1 pm => ?_)
  have hvl : vs.length = l.length := by rw [pm.length_eq, List.length_map, Array.length_toList]; exact hz
  -- what the entries tell: the texts, each once
  have ent : ∀ v ∈ vs, ∃ k t, v = Value.str k t ∧ k ∈ l := fun v hv => by
    obtain ⟨e, he, q⟩ := List.mem_map.mp (pm.mem_iff.mp hv)
    obtain ⟨⟨k, hk, _⟩, _⟩ := F.el e he
    rw [q] at hk
    have hv2 : ∃ t, v = Value.str k t := by
      have hk : Value.isStrOf k v = true := hk
      cases v <;> simp [Value.isStrOf] at hk
      exact ⟨_, by rw [hk]⟩
    obtain ⟨t, ht⟩ := hv2
    exact ⟨k, t, ht, (F.mem k).mpr ⟨e, he, by rw [q, ht]; exact is_str k t⟩⟩
  have hS : StrsAre vs (vs.map strOf) := strsAre_map vs fun v hv => by
    obtain ⟨k, t, e, _⟩ := ent v hv
    exact ⟨k, t, e⟩
  have pl : l.Perm (vs.map strOf) := perm_of_in nd (fun k hk => by
    obtain ⟨e, he, q⟩ := (F.mem k).mp hk
    have hv : e.2 ∈ vs := pm.mem_iff.mpr (List.mem_map_of_mem he)
    obtain ⟨k2, t, e2, _⟩ := ent _ hv
    have : (strKind X.prog X.w).is k2 e.2 = true := by rw [e2]; exact is_str k2 t
    have hkk : k = k2 := (strKind X.prog X.w).inj e.2 k k2 q this
    refine List.mem_map.mpr ⟨e.2, hv, ?_⟩
    rw [e2, hkk]
    rfl) (by rw [List.length_map, hvl]; omega)
  refine wpAny_bind (wpAny_newList ?_ (by rw [hvl]; omega))
  have at1 : (s1.heap.push (seqObj "list" vs.toArray 0)).get? s1.heap.objs.size = some (seqObj "list" vs.toArray 0) := Heap.get?_push_size _ rfl
  refine wpAny_bind (wpAny_holding (wpAny_call_entry slot_list_sort ⟨_, at1, rfl⟩ entry_list_sort (list_sort_treeKAny strKind_oneLt at1 hS.keysOf (fun v1 v2 rest e => keyKind_strs (by rw [← e]; exact hS)) (by rw [hvl]; omega) fun st2 hp hs => ⟨_, rfl, ?_⟩) (args_list_sort _)))
  obtain ⟨ss2, h1, h2, h3⟩ := sorted_out_str hS hp hs
  obtain ⟨c, hc2⟩ := sortedHeap_at (vs := vs) (out := (arrOf st2).map (·.2)) at1
  have e2 : ss2 = sortT l := sortT_of h3 (h2.trans pl.symm)
  have keep : ∀ b u, s.heap.get? b = some u → (sortedHeap (s1.heap.push (seqObj "list" vs.toArray 0)) s1.heap.objs.size vs ((arrOf st2).map (·.2))).get? b = some u := fun b u e => by
    have q := k1 b u e
    have hlt := Heap.lt_size q
    rw [sortedHeap_old (Nat.ne_of_lt hlt) (by rw [Heap.size_push]; exact Nat.lt_succ_of_lt hlt)]
    exact Heap.get?_push_of_some _ q
  refine wpAny_pure ⟨_, rfl, ?_⟩
  have hn : H s1.heap.objs.size = none := I.hok.fresh z1
  have hlen : ((sortT l).map V.str).length ≤ sizeLine := by rw [List.length_map, ← e2, h2.length_eq, List.length_map, hvl]; omega
  have J : Inv X pins σ (upd H s1.heap.objs.size (.lst ((sortT l).map V.str))) { s with heap := sortedHeap (s1.heap.push (seqObj "list" vs.toArray 0)) s1.heap.objs.size vs ((arrOf st2).map (·.2)), gens := s1.gens, drawn := s1.drawn, toks := s1.toks } :=
    I.call (ch := []) (Un.laid keep z1 hn) (I.hok.laid keep z1 ⟨hlen, ((arrOf st2).map (·.2)).toList, c, by rw [← e2]; exact vals_of_strs h1, hc2⟩) (by rw [g1]; exact I.bare) (fun _ z => nomatch z)
  obtain ⟨hp1, gn1, dr1, tk1, os1⟩ := s1
  have o1 : os1 = s.os := o1
  subst o1
  exact ⟨.ref hp1.objs.size, _, J, rfl, q _ hn⟩
end
end Ds
namespace Ds
open PySem PySem.Spec PyProof.Rows L2 Dn
theorem ext_tup (l : Addr) (us : Array Value) (n : Nat) (b : Addr) (vs : Array Value) (n2 : Nat) (dd : Option Addr) (sl : Array (Option Value)) (h0 : ¬(!us.isEmpty && Builtin.List.listTooLong (us.size + vs.size)) = true) (h1 : us.size ≤ sizeLine) (h2 : us.size + vs.size ≤ sizeLine + 1) :
    Meets (Builtin.«list.extend» ⟨[.ref l, .ref b], []⟩) (fun _ R s => s.heap.get? l = some { cls := .type "list", dict := none, data := .seq us n, slots := #[] } ∧ s.heap.get? b = some { cls := .type "tuple", dict := dd, data := .seq vs n2, slots := sl } ∧ R (.ok (.ret Value.none)) { s with heap := s.heap.update l (Obj.mapSeq fun x => x ++ vs), toks := s.toks }) :=
  .of_wp fun prog w A R s h => by
    obtain ⟨hp, g, d, tk, os⟩ := s; obtain ⟨k1, k2, k3⟩ := h; have f1 := AutoSeq1.idx_int; have f2 := AutoSeq1.sub_tuple_tuple; have f3 := AutoSeq1.sub_list_list; have f4 := AutoSeq1.sub_tuple_list; have f5 := AutoSeq1.sub_list_tuple
    have hz : (us ++ vs).size ≤ sizeLine + 1 := by rw [Array.size_append]; exact h2
    wp_walk using (wpAny_updateSeq k1 rfl (hz := h1) (_hz' := hz)), AutoSeq1.wpAny_loadPart' k1, AutoSeq1.wpAny_loadPart' k2
    exact ⟨_, rfl, k3⟩
theorem ext_lst (l : Addr) (us : Array Value) (n : Nat) (b : Addr) (vs : Array Value) (n2 : Nat) (dd : Option Addr) (sl : Array (Option Value)) (h0 : ¬(!us.isEmpty && Builtin.List.listTooLong (us.size + vs.size)) = true) (h1 : us.size ≤ sizeLine) (h2 : us.size + vs.size ≤ sizeLine + 1) :
    Meets (Builtin.«list.extend» ⟨[.ref l, .ref b], []⟩) (fun _ R s => s.heap.get? l = some { cls := .type "list", dict := none, data := .seq us n, slots := #[] } ∧ s.heap.get? b = some { cls := .type "list", dict := dd, data := .seq vs n2, slots := sl } ∧ R (.ok (.ret Value.none)) { s with heap := s.heap.update l (Obj.mapSeq fun x => x ++ vs), toks := s.toks }) :=
  .of_wp fun prog w A R s h => by
    obtain ⟨hp, g, d, tk, os⟩ := s; obtain ⟨k1, k2, k3⟩ := h; have f1 := AutoSeq1.idx_int; have f2 := AutoSeq1.sub_tuple_tuple; have f3 := AutoSeq1.sub_list_list; have f4 := AutoSeq1.sub_tuple_list; have f5 := AutoSeq1.sub_list_tuple
    have hz : (us ++ vs).size ≤ sizeLine + 1 := by rw [Array.size_append]; exact h2
    wp_walk using (wpAny_updateSeq k1 rfl (hz := h1) (_hz' := hz)), AutoSeq1.wpAny_loadPart' k1, AutoSeq1.wpAny_loadPart' k2
    exact ⟨_, rfl, k3⟩
section
variable {X : Cx}
def rExtA (K : PySem.W.Frag) : V → List V → Hp → VK → Prop := fun x vs H Q => ∃ l b xs zs, x = .ref l ∧ vs = [.ref b] ∧ H l = some (.lst xs) ∧ (SqL K H b zs ∨ SqT K H b zs) ∧ xs.length + zs.length ≤ sizeLine ∧ Q .non (upd H l (.lst (xs ++ zs)))
theorem mt_extA : MtM X "list.extend" (rExtA X.K) := by
  intro pins s σ H x vs v us Q I rx rv h
  obtain ⟨l, b, xs, zs, rfl, rfl, hH, hB, hz, q⟩ := h
  cases rx
  obtain ⟨u, rfl, ru⟩ := rv.one
  cases ru
  obtain ⟨z, its, n, r, hl, e⟩ := I.lstM hH
  have fin : ∀ (jts : List Value), Vals zs jts → EP X pins σ Q Value.none { s with heap := s.heap.update l (Obj.mapSeq fun x => x ++ jts.toArray), toks := s.toks } := fun jts r2 => by
    refine ⟨.non, _, I.lset (its' := its ++ jts) hH e (by simp) (r.append r2) ?_, rfl, q⟩
    rw [List.length_append]
    omega
  have len : ∀ (jts : List Value), Vals zs jts → its.toArray.size + jts.toArray.size ≤ sizeLine := fun jts r2 => by
    have := r2.length
    have := r.length
    rw [List.size_toArray, List.size_toArray]
    omega
  have lng : ∀ (jts : List Value), Vals zs jts → ¬ (!its.toArray.isEmpty && Builtin.List.listTooLong (its.toArray.size + jts.toArray.size)) = true := fun jts r2 => by
    rw [notLongL (len jts r2), Bool.and_false]
    exact Bool.false_ne_true
  rcases hB with hB | hB
  · obtain ⟨jts, r2, ⟨o2, n2, g2, c2, d2, t2⟩, _⟩ := I.list hB
    obtain ⟨oc, od, odt, osl⟩ := o2
    simp only at c2 d2 t2
    subst c2 d2 t2
    have hs := len jts r2
    exact call_meets PySem.F.slot_list_extend ⟨_, e, rfl⟩ PySem.F.entry_list_extend (PySem.F.args_list_extend_2 _ _) (ext_lst l its.toArray n b jts.toArray n2 _ _ (lng jts r2) (by omega) (by omega)) ⟨e, g2, fin jts r2⟩
  · obtain ⟨jts, r2, ⟨o2, g2, c2, n2, t2⟩, _⟩ := I.tuple hB
    obtain ⟨oc, od, odt, osl⟩ := o2
    simp only at c2 t2
    subst c2 t2
    have hs := len jts r2
    exact call_meets PySem.F.slot_list_extend ⟨_, e, rfl⟩ PySem.F.entry_list_extend (PySem.F.args_list_extend_2 _ _) (ext_tup l its.toArray n b jts.toArray n2 _ _ (lng jts r2) (by omega) (by omega)) ⟨e, g2, fin jts r2⟩
end
section
variable {X : Cx} {E : XQ} {o v e : Expr} {pos : Pos} {ml : M Nat} {mc : M Cl}
/-- y.extend(x) -/
def mExt (ml : M Nat) (mc : M Cl) : M Fl := mBind (mIsL ml) fun l => mBind mc fun c δ => match δ.s[l]?, (snap δ.s c).bind itemsD with
  | some (.lst xs), some ds => if xs.length + ds.length ≤ sizeLine then .ok .nx ⟨δ.e, δ.s.set l (.lst (xs ++ ds.map Cl.sh))⟩ else .bad
  | _, _ => .bad
theorem js_ext {apos cpos : Pos} (ho : PE X o (tOfL X.K E ml)) (he : PE X v (tOfC X.K E mc))
    {PE0 : PE X (.Call (.Attribute o "extend" apos) [v] [] cpos) (tBM X.K "list" (rExtA X.K) (tOfL X.K E ml) (tCons (tOfC X.K E mc) tNil))}
    (hs : swapsWith (.Call (.Attribute o "extend" apos) [v] [] cpos) none pos.line X.env = pure false := by rfl) : PS X (.Expr (.Call (.Attribute o "extend" apos) [v] [] cpos) pos) (tOfS X.K E (mExt ml mc)) :=
  pst_imp (ps_expr PE0 hs) fun B σ H ⟨G, g, δ, re, po⟩ => by
    show tBM _ _ _ _ _ _ _ _
    unfold tBM
    refine isLS re po fun q l g1 H1 δ1 e1 re1 r1 ht po1 => ⟨ht, ?_⟩
    refine tOfC.stepS re1 po1 fun w c g2 H2 δ2 e2 re2 r2 po2 => ?_
    split at po2
    · rename_i xs ds hx hd
      split at po2
      · rename_i hl
        obtain ⟨d, hd1, hd2⟩ := Option.bind_eq_some_iff.mp hd
        have ha' := e2.r _ _ r1
        obtain ⟨vs, h1, h2⟩ := re2.lstAt ha' hx
        obtain ⟨p, ys, e3, hq, t⟩ := snap_items re2 r2 hd1 hd2
        refine ⟨q, p, vs, ys, rfl, by rw [e3], h1, hq, by rw [h2.length, t.length]; exact hl, ?_⟩
        exact PostS.of po2 (re2.write hx rfl ha' (.lst (h2.append (rps_cr t))))
      · exact po2.elim
    · exact po2.elim
/-- sorted(set(x)), x some texts -/
def mTexts (f : List Str → D) (mc : M Cl) : M D := mBind mc fun c δ => match ((snap δ.s c).bind itemsD).bind toSs with
  | some ts => if ts.length + 1 < scanBound then .ok (f (metT ts)) δ else .bad
  | none => .bad
theorem texts_at {K : Frag} {G : Hp} {g : Gh} {H : Hp} {σ : L2.St} {δ : Sx} (re : RE K G g H σ δ) {w : V} {c : Cl} {ts : List Str} (r : CR K g w c) (h : ((snap δ.s c).bind itemsD).bind toSs = some ts) : ∃ p, w = .ref p ∧ (SqL K H p (ts.map V.str) ∨ SqT K H p (ts.map V.str)) := by
  obtain ⟨ds, h1, h2⟩ := Option.bind_eq_some_iff.mp h
  obtain ⟨d, h3, h4⟩ := Option.bind_eq_some_iff.mp h1
  obtain ⟨p, ys, e, hq, t⟩ := snap_items re r h3 h4
  have e1 := toSs_eq h2
  subst e1
  have e2 := t.strs
  subst e2
  exact ⟨p, e, hq⟩
theorem je_sortSet {p p2 q : Pos} (hc : X.calm = true) (hg : Gl X "sorted") (hm : X.mg "sorted" = none) (hv : bootBuiltins "sorted" = some (.builtin "sorted")) (hg2 : Gl X "set") (hm2 : X.mg "set" = none) (hv2 : bootBuiltins "set" = some (.type "set")) (he : PE X e (tOfC X.K E mc))
    (h1 : starEach [e] X.env = (false, eval e X.env) :: starEach [] X.env := by rfl) (hpl : (backTo q (starEach [] X.env)).any (·.1) = false := by rfl)
    (h2 : starEach [.Call (.Name "set" p2) [e] [] q] X.env = (false, eval (.Call (.Name "set" p2) [e] [] q) X.env) :: starEach [] X.env := by rfl) (hpl2 : (backTo pos (starEach [] X.env)).any (·.1) = false := by rfl) :
    PE X (.Call (.Name "sorted" p) [.Call (.Name "set" p2) [e] [] q] [] pos) (tOf X.K E (mTexts (fun l => .list ((sortT l).map PyData.str)) mc)) :=
  pe_imp (pe_callB (cr_sortX hc) hg hm hv (pa_cons (pe_callTy (cr_setX hc) hg2 hm2 hv2 (pa_cons he pa_nil h1) (by decide) (by decide) h1 hpl) pa_nil h2) (by decide) (by decide) h2 hpl2) fun σ H Q ⟨G, g, δ, re, po⟩ => tOfC.step re po fun w c g1 H1 δ1 e1 re1 r1 po1 => by
    split at po1
    · rename_i ts hts
      split at po1
      · rename_i hl
        obtain ⟨a, rfl, hq⟩ := texts_at re1 r1 hts
        refine ⟨a, ts, rfl, hq, hl, fun b hb => ⟨b, metT ts, rfl, upd_same, fun c hcn => ?_⟩⟩
        have re2 := re1.newH (ex_new (o := SetX X.prog X.w b (metT ts)) hb)
        exact Post.grow po1 re2 (Grw.new re2.ex hcn) _ (.lst (SqL.of upd_same) (Rps.of_strs _))
      · exact po1.elim
    · exact po1.elim
end
end Ds
namespace Ds
open PySem PySem.Spec PyProof.Rows L2 Dn
section
variable {X : Cx} {E : XQ} {a b e o : Expr} {pos : Pos} {m : M D}
inductive KKeys : List DictEntry → List Str → Prop where
  | nil : KKeys [] []
  | cons {e : DictEntry} {r : List DictEntry} {x : Str} {t : Tok} {ks : List Str} : e.key = .str x t → KKeys r ks → KKeys (e :: r) (x :: ks)
theorem KKeys.find {es : List DictEntry} {ks : List Str} (h : KKeys es ks) (z : Str) : (es.find? (·.key.isStr z)).isSome = ks.contains z ∧ es.any (·.refKey) = false := by
  induction h with
  | nil => exact ⟨rfl, rfl⟩
  | @cons e r x t ks he _ ih =>
    have k1 : e.key.isStr z = (x == z) := by rw [he]; rfl
    have k2 : e.refKey = false := by unfold DictEntry.refKey; rw [he]
    refine ⟨?_, by rw [List.any_cons, ih.2, k2]; rfl⟩
    rw [List.find?_cons, k1, List.contains_cons]
    by_cases h : x = z
    · subst h; simp
    · have h1 : (x == z) = false := by simpa using h
      have h2 : (z == x) = false := by simpa using fun q => h q.symm
      rw [h1, h2, Bool.false_or]
      exact ih.1
def mKIn (neg : Bool) (ks : List Str) (m : M D) : M D := mBind m fun e => mOpt ((toS e).map fun z => .bool (if neg then !ks.contains z else ks.contains z))
end
end Ds
namespace Ds
open PySem PySem.Spec PyProof.Rows L2 Dn
def enumD (ds : List D) : List D := ds.zipIdx.map fun p => .tuple [.int (p.2 : Nat), p.1]
def zipD (ds es : List D) : List D := List.zipWith (fun d e => .tuple [d, e]) ds es
section
variable {X : Cx} {E : XQ} {tg e : Expr} {pos : Pos} {m : M D}
def mEnum (m : M D) : M (List D) := mBind m fun d => mOpt ((dItems d).map enumD)
def mZip (ma mb : M D) : M (List D) := mBind ma fun d => mBind mb fun e => mOpt ((dItems d).bind fun ds => (dItems e).map (zipD ds))
/-- lo, lo + c, .. -/
def stepD (lo c : Int) (n : Nat) : List D := (List.range n).map fun (k : Nat) => PyData.int (lo + (k : Nat) * c)
def okStep (i j c : Int) : Bool := decide (c ≠ 0) && (decide (c.natAbs < 1073741824) && (Builtin.Range.small i j c && decide (0 ≤ Builtin.Range.rangeSize i j c)))
def bRng3 : D → D → D → Option (List D)
  | .int i, .int j, .int c => if okStep i j c = true then some (stepD i c (Builtin.Range.rangeSize i j c).toNat) else none
  | _, _, _ => none
def mRng3 (ma mb mc : M D) : M (List D) := mBind ma fun d => mBind mb fun e => mBind mc fun c => mOpt (bRng3 d e c)
end
end Ds
namespace Ds
open PySem PySem.Spec PyProof.Rows L2 Dn
inductive KVs (K : Frag) : List DictEntry → List (Str × D) → Prop where
  | nil : KVs K [] []
  | cons {e : DictEntry} {r : List DictEntry} {x : Str} {t : Tok} {v : V} {d : D} {kvs : List (Str × D)} : e.key = .str x t → RelV v e.val → (∀ H, Rp K H v d) → KVs K r kvs → KVs K (e :: r) ((x, d) :: kvs)
def KDv (w : World) (K : Frag) (d : Addr) (kvs : List (Str × D)) : Prop := ∃ es n, KDict K w d es n ∧ KVs K es.toList kvs
def lookS (kvs : List (Str × D)) (z : Str) : Option D := (kvs.find? fun kv => decide (kv.1 = z)).map (·.2)
theorem KVs.find {K : Frag} {es : List DictEntry} {kvs : List (Str × D)} (h : KVs K es kvs) {z : Str} {d : D} (q : lookS kvs z = some d) : ∃ e v, es.find? (·.key.isStr z) = some e ∧ RelV v e.val ∧ ∀ H, Rp K H v d := by
  induction h with
  | nil => cases q
  | @cons e r x t v d0 kvs he hv hr _ ih =>
    have k1 : e.key.isStr z = (x == z) := by rw [he]; rfl
    unfold lookS at q ih
    rw [List.find?_cons] at q ⊢
    by_cases hx : x = z
    · rw [decide_eq_true hx] at q
      obtain rfl : d0 = d := Option.some.inj q
      rw [k1, hx, beq_self_eq_true]
      exact ⟨e, v, rfl, hv, hr⟩
    · rw [decide_eq_false hx] at q
      have : (x == z) = false := by simpa using hx
      rw [k1, this]
      exact ih q
theorem KDv.at_ {w : World} {K : Frag} {a : Addr} {kvs : List (Str × D)} (h : KDv w K a kvs) {z : Str} {d : D} (q : lookS kvs z = some d) : ∃ v, KDct K w a z v ∧ ∀ H, Rp K H v d := by
  obtain ⟨es, n, D, k⟩ := h
  obtain ⟨e, v, h1, h2, h3⟩ := k.find q
  refine ⟨v, ⟨es, n, e.val, D.at_, D.lit, ?_, h2⟩, h3⟩
  unfold PySem.W.nsIn
  rw [D.at_]
  dsimp only
  rw [h1]
section
variable {X : Cx} {E : XQ} {e o : Expr} {pos : Pos} {m : M D} {ml : M Nat}
def mKGet (kvs : List (Str × D)) (m : M D) : M D := mBind m fun e => mOpt ((toS e).bind (lookS kvs))
def keysS : List (Key × Cl) → Option (List Str)
  | [] => some []
  | (.inr x, _) :: r => (keysS r).map (x :: ·)
  | _ => none
def mSortD (ml : M Nat) : M D := mBind ml fun l δ => match δ.s[l]? with
  | some (.dk kvs) => (match keysS kvs with
    | some ks => if ks.length < 64 then .ok (.list ((sortT ks).map PyData.str)) δ else .bad
    | none => .bad)
  | _ => .bad
end
end Ds
namespace Ds
open PySem PySem.Spec PyProof.Rows L2 Dn
def badV : List Value → Bool
  | .str _ _ :: .int _ _ :: _ => true
  | _ => false
/-- no tuple of the module begins with a text and an int -/
def KFr (K : Frag) : Prop := (K.all fun p => match p.2.data with | .seq its _ => !badV its.toList | _ => true) = true
def isTI : List Key → Bool
  | .inr _ :: .inl _ :: _ => true
  | _ => false
def toKs : List D → Option (List Key)
  | [] => some []
  | d :: ds => match toK d, toKs ds with
    | some k, some ks => some (k :: ks)
    | _, _ => none
def toTK : D → Option (List Key)
  | .tuple ds => match toKs ds with
    | some ks => if isTI ks then some ks else none
    | none => none
  | _ => none
def keyD : Key → D
  | .inl i => .int i
  | .inr x => .str x
theorem toKs_v {K : Frag} {H : Hp} : ∀ {vs : List V} {ds : List D} {ks : List Key}, Rps K H vs ds → toKs ds = some ks → vs = ks.map kV
  | _, _, ks, .nil, h => by cases h; rfl
  | _, _, ks, .cons (d := d) (ds := ds) r t, h => by
    unfold toKs at h
    cases q1 : toK d with
    | none => rw [q1] at h; cases h
    | some k =>
      cases q2 : toKs ds with
      | none => rw [q1, q2] at h; cases h
      | some ks' =>
        rw [q1, q2] at h
        cases h
        rw [List.map_cons, toK_v r q1, toKs_v t q2]
theorem look_mem {K : Frag} {a : Addr} {o : Obj} (h : K.lookup a = some o) : (a, o) ∈ K := by
  induction K with
  | nil => cases h
  | cons p r ih =>
    obtain ⟨b, x⟩ := p
    simp only [List.lookup] at h
    split at h
    · rename_i q
      cases h
      rw [beq_iff_eq.mp q]
      exact List.mem_cons_self
    · exact List.mem_cons_of_mem _ (ih h)
theorem toTK_v {K : Frag} {H : Hp} {v : V} {d : D} {ks : List Key} (kf : KFr K) (r : Rp K H v d) (h : toTK d = some ks) : ∃ b, v = .ref b ∧ H b = some (.tup (ks.map kV)) := by
  cases r with
  | @tup a xs ds q t =>
    unfold toTK at h
    dsimp only at h
    cases q2 : toKs ds with
    | none => rw [q2] at h; cases h
    | some ks' =>
      rw [q2] at h
      dsimp only at h
      split at h
      · rename_i hti
        cases h
        have hv := toKs_v t q2
        subst hv
        rcases q with q | ⟨o, its, n, h1, h2, h3, h4, h5⟩
        · exact ⟨a, rfl, q⟩
        · exfalso
          have := List.all_eq_true.mp kf _ (look_mem h1)
          dsimp only at this
          rw [h3] at this
          dsimp only at this
          match ks, hti with
          | .inr x :: .inl i :: r, _ =>
            generalize its.toList = l at this h5
            cases h5 with
            | cons r1 t1 =>
              cases t1 with
              | cons r2 t2 =>
                obtain ⟨_, rfl⟩ := (show ∃ t, _ = Value.str x t from r1)
                obtain ⟨_, rfl⟩ := (show ∃ t, _ = Value.int i t from r2)
                cases this
      · cases h
  | _ => cases h
theorem RE.dtAt {K : Frag} {G : Hp} {g : Gh} {H : Hp} {σ : L2.St} {δ : Sx} (r : RE K G g H σ δ) {l : Nat} {a : Addr} {xs : List (List Key × Cl)} (h : g.r[l]? = some a) (hx : δ.s[l]? = some (.dt xs)) : ∃ vs, H a = some (.dT vs) ∧ KR K g vs xs := by
  obtain ⟨b, u, h1, h2, h3, h4⟩ := r.ob l _ hx rfl
  rw [h] at h1
  cases h1
  cases h3 with
  | dt h3 => exact ⟨_, h2, h3⟩
/-- a dict with tuple keys, locked or not -/
def dtOf : Ob → Option (List (List Key × Cl))
  | .dt kvs => some kvs
  | .ft kvs => some kvs
  | _ => none
def tkAt (s : List Ob) (l : Nat) : Option (List (List Key × Cl)) := (s[l]?).bind dtOf
theorem RE.dtRd {K : Frag} {G : Hp} {g : Gh} {H : Hp} {σ : L2.St} {δ : Sx} (r : RE K G g H σ δ) {l : Nat} {a : Addr} {xs : List (List Key × Cl)} (h : g.r[l]? = some a) (hx : tkAt δ.s l = some xs) : ∃ vs, Rd H a (.dT vs) ∧ KR K g vs xs := by
  obtain ⟨o, h1, h2⟩ := Option.bind_eq_some_iff.mp hx
  cases o with
  | dt kvs =>
    cases h2
    obtain ⟨vs, k1, k2⟩ := r.dtAt h h1
    exact ⟨vs, .inl k1, k2⟩
  | ft kvs =>
    cases h2
    obtain ⟨b, o, vs, k1, k2, k3⟩ := r.fz l _ h1
    rw [h] at k1
    cases k1
    exact ⟨vs, .inr ⟨o, r.ex _ _ k2⟩, k3⟩
  | _ => cases h2
theorem dget_t {H : Hp} {a b : Addr} {kvs : List (List Key × V)} {k : List Key} (e : Rd H a (.dT kvs)) (eb : H b = some (.tup (k.map kV))) : DGet H a (.ref b) (valV kvs k) := .inr ⟨kvs, k, b, e, rfl, eb, rfl⟩
section
variable {X : Cx} {E : XQ} {a b e o f : Expr} {pos : Pos} {m mk mx : M D} {mc : M Cl} {ml : M Nat} {m1 m2 : M Fl}
/-- d[k] -/
def mTGet (ml : M Nat) (mk : M D) : M Cl := mBind ml fun l => mBind mk fun e δ => match tkAt δ.s l, toTK e with
  | some kvs, some k => match valC kvs k with
    | some c => .ok c δ
    | none => .bad
  | _, _ => .bad
theorem jc_tget (kf : KFr X.K) (hu : X.A.units + 64 < cLine) (ho : PE X o (tOfL X.K E ml)) (hi : PE X e (tOf X.K E mk)) (hs : NoSl e) : PE X (.Subscript o e pos) (tOfC X.K E (mTGet ml mk)) :=
  pe_imp (pe_dget (by omega) ho hi hs) fun σ H Q ⟨G, g, δ, re, po⟩ => tOfL.step re po fun q l g1 H1 δ1 e1 re1 r1 po1 => tOf.step re1 po1 fun y d g2 H2 δ2 e2 re2 r2 po2 => by
    split at po2
    · rename_i kvs k hx hk
      split at po2
      · rename_i c hc
        obtain ⟨vs, h1, h2⟩ := re2.dtRd (e2.r _ _ r1) hx
        obtain ⟨v, h3, h4⟩ := h2.some hc
        refine ⟨q, v, rfl, ?_, Post.of po2 re2 v h4⟩
        obtain ⟨b, rfl, hb⟩ := toTK_v kf r2 hk
        rw [← h3]
        exact dget_t h1 (re2.ex _ _ hb)
      · exact po2.elim
    · exact po2.elim
def isDt (l : Nat) : M Nat := fun δ => match tkAt δ.s l with
  | some _ => .ok l δ
  | _ => .bad
theorem isDt_ok (l : Nat) (δ : Sx) : isDt l δ = .bad ∨ ∃ xs, tkAt δ.s l = some xs ∧ isDt l δ = .ok l δ := by
  unfold isDt
  split
  · rename_i xs h
    exact .inr ⟨xs, h, rfl⟩
  · exact .inl rfl
theorem isDt_po {K : Frag} {G : Hp} {g : Gh} {σ : L2.St} {δ : Sx} {l : Nat} {β : Type} {f : Nat → M β} {QQ : β → Gh → Hp → Sx → Prop} (po : Post K E G g σ (mBind (isDt l) f δ) QQ) : ∃ xs, tkAt δ.s l = some xs ∧ Post K E G g σ (f l δ) QQ := by
  unfold mBind at po
  rcases isDt_ok l δ with h | ⟨xs, hx, h⟩
  · rw [h] at po; exact po.elim
  · rw [h] at po; exact ⟨xs, hx, po⟩
/-- d.get(k, x) -/
def mTGet2 (ml : M Nat) (mk : M D) (mc : M Cl) : M Cl := mBind ml fun l => mBind (isDt l) fun l => mBind mk fun e => mBind mc fun z δ => match tkAt δ.s l, toTK e with
  | some kvs, some k => .ok ((valC kvs k).getD z) δ
  | _, _ => .bad
theorem jc_tget2 {apos cpos : Pos} (kf : KFr X.K) (hu : X.A.units + 64 < cLine) (ho : PE X o (tOfL X.K E ml)) (he : PE X e (tOf X.K E mk)) (hf : PE X f (tOfC X.K E mc)) (m : M2 X o "get" apos e f cpos) : PE X (.Call (.Attribute o "get" apos) [e, f] [] cpos) (tOfC X.K E (mTGet2 ml mk mc)) :=
  pe_imp (pe_dget2 (by omega) ho he hf m) fun σ H Q ⟨G, g, δ, re, po⟩ => tOfL.step re po fun q l g1 H1 δ1 e1 re1 r1 po1 => by
    obtain ⟨xs0, hx0, po1⟩ := isDt_po po1
    obtain ⟨vs0, k1, k2⟩ := re1.dtRd r1 hx0
    refine ⟨q, rfl, .inr ⟨vs0, k1⟩, tOf.step re1 po1 fun y d g2 H2 δ2 e2 re2 r2 po2 => tOfC.step re2 po2 fun w z g3 H3 δ3 e3 re3 r3 po3 => ?_⟩
    split at po3
    · rename_i kvs k hx hk
      obtain ⟨vs, h1, h2⟩ := re3.dtRd (e3.r _ _ (e2.r _ _ r1)) hx
      obtain ⟨b, rfl, hb⟩ := toTK_v kf (r2.ex e3.h) hk
      refine ⟨valV vs k, dget_t h1 (re3.ex _ _ hb), ?_⟩
      rcases h2.val k with ⟨a1, a2⟩ | ⟨v, c, a1, a2, a3⟩
      · rw [a1] at po3; rw [a2]; exact Post.of po3 re3 w r3
      · rw [a1] at po3; rw [a2]; exact Post.of po3 re3 v a3
    · exact po3.elim
/-- d[k] = x -/
def mTPut (ml : M Nat) (mk : M D) (mc : M Cl) : M Fl := mBind mc fun c => mBind ml fun l => mBind mk fun e δ => match δ.s[l]?, toTK e with
  | some (.dt kvs), some k => if kvs.length < sizeLine then .ok .nx ⟨δ.e, δ.s.set l (.dt (putC kvs k c))⟩ else .bad
  | _, _ => .bad
theorem js_tput {pos' : Pos} {v : Expr} (kf : KFr X.K) (hu : X.A.units + 64 < cLine) (ho : PE X o (tOfL X.K E ml)) (hi : PE X e (tOf X.K E mk)) (hv : PE X v (tOfC X.K E mc)) (hs : swapsWith v (some (.Subscript o e pos')) pos.line X.env = pure false := by rfl) : PS X (.Assign [.Subscript o e pos'] v pos) (tOfS X.K E (mTPut ml mk mc)) :=
  pst_imp (ps_dput (by omega) ho hi hv hs) fun B σ H ⟨G, g, δ, re, po⟩ => tOfC.stepS re po fun w c g1 H1 δ1 e1 re1 r1 po1 => tOfL.stepS re1 po1 fun q l g2 H2 δ2 e2 re2 r2 po2 => tOf.stepS re2 po2 fun y d g3 H3 δ3 e3 re3 r3 po3 => by
    split at po3
    · rename_i kvs k hx hk
      split at po3
      · rename_i hl
        have ha := e3.r _ _ r2
        obtain ⟨vs, h1, h2⟩ := re3.dtAt ha hx
        obtain ⟨b, rfl, hb⟩ := toTK_v kf r3 hk
        exact ⟨q, _, rfl, DPut.t h1 (re3.ex _ _ hb) (by rw [h2.length]; exact hl), PostS.of po3 (re3.write hx rfl ha (.dt (h2.put k ((r1.le e2).le e3))))⟩
      · exact po3.elim
    · exact po3.elim
/-- k in d, k not in d -/
def mTIn (neg : Bool) (mk : M D) (ml : M Nat) : M D := mBind mk fun e => mBind ml fun l δ => match tkAt δ.s l, toTK e with
  | some kvs, some k => .ok (.bool (if neg then !(valC kvs k).isSome else (valC kvs k).isSome)) δ
  | _, _ => .bad
/-- {} -/
def mTNew : M Nat := mAll (.dt [])
theorem jl_tnew : PE X (.Dict [] [] pos) (tOfL X.K E mTNew) :=
  pe_imp pe_dnewT fun σ H Q ⟨G, g, δ, re, po⟩ p hp => by
    obtain ⟨g2, k1, k2⟩ := allS (re.newH (ex_new hp)) (Fro.new re hp (.dt .nil)) po
    exact k1 p k2
end
end Ds
namespace Ds
open PySem PySem.Spec PyProof.Rows L2 Dn
theorem clsA_of {K : Frag} {c : Str} {C : Addr} (h : PySem.W.nsIn K mainGlobals c = some (some (.ref C))) : clsA K c = some C := by
  unfold clsA
  rw [h]
def putFC (f : Str) (c : Cl) : List (Str × Cl) → List (Str × Cl)
  | [] => [(f, c)]
  | (g, x) :: r => if g = f then (g, c) :: r else (g, x) :: putFC f c r
section
variable {K : Frag} {g : Gh}
theorem KR.look {vs : List (Str × V)} {cs : List (Str × Cl)} (r : KR K g vs cs) (f : Str) : (cs.lookup f = none ∧ vs.lookup f = none) ∨ ∃ v c, cs.lookup f = Option.some c ∧ vs.lookup f = Option.some v ∧ CR K g v c := by
  induction r with
  | nil => exact .inl ⟨rfl, rfl⟩
  | @cons p q ps qs h t ih =>
    obtain ⟨p1, p2⟩ := p
    obtain ⟨q1, q2⟩ := q
    obtain ⟨h1, h2⟩ := h
    dsimp only at h1 h2
    subst h1
    by_cases e : f = p1
    · subst e
      refine .inr ⟨p2, q2, ?_, ?_, h2⟩
      · simp [List.lookup]
      · simp [List.lookup]
    · have b : (f == p1) = false := by simpa using e
      have e1 : List.lookup f ((p1, q2) :: qs) = List.lookup f qs := by simp only [List.lookup, b]
      have e2 : List.lookup f ((p1, p2) :: ps) = List.lookup f ps := by simp only [List.lookup, b]
      rw [e1, e2]
      exact ih
theorem KR.putF {vs : List (Str × V)} {cs : List (Str × Cl)} (r : KR K g vs cs) (f : Str) {v : V} {c : Cl} (h : CR K g v c) : KR K g (L2.putF f v vs) (putFC f c cs) := by
  induction r with
  | nil => exact .cons ⟨rfl, h⟩ .nil
  | @cons p q ps qs h' t ih =>
    obtain ⟨p1, p2⟩ := p
    obtain ⟨q1, q2⟩ := q
    obtain ⟨h1, h2⟩ := h'
    dsimp only at h1 h2
    subst h1
    unfold L2.putF putFC
    by_cases e : p1 = f
    · rw [if_pos e, if_pos e]; exact .cons ⟨rfl, h⟩ t
    · rw [if_neg e, if_neg e]; exact .cons ⟨rfl, h2⟩ ih
theorem RE.insAt {G : Hp} {H : Hp} {σ : L2.St} {δ : Sx} (r : RE K G g H σ δ) {l : Nat} {a C : Addr} {c : Str} {fs : List (Str × Cl)} (hC : clsA K c = some C) (h : g.r[l]? = some a) (hx : δ.s[l]? = some (.ins c fs)) : ∃ dx vs, H a = some (.ins C dx vs) ∧ KR K g vs fs := by
  obtain ⟨b, u, h1, h2, h3, h4⟩ := r.ob l _ hx rfl
  rw [h] at h1
  cases h1
  cases h3 with
  | ins hc h3 =>
    rw [hC] at hc
    cases hc
    exact ⟨_, _, h2, h3⟩
end
section
variable {X : Cx} {E : XQ} {a b e o : Expr} {pos : Pos} {mc : M Cl} {ml : M Nat} {c f : Str} {C : Addr}
/-- o.f -/
def mFld (c : Str) (ml : M Nat) (f : Str) : M Cl := mBind ml fun l δ => match δ.s[l]? with
  | some (.ins c' fs) => if c' = c then (match fs.lookup f with
    | some x => .ok x δ
    | none => .bad) else .bad
  | _ => .bad
theorem jc_fld (hC : clsA X.K c = some C) (k : Cls X.K C) (n : NoAttr X.K C f) (ho : PE X o (tOfL X.K E ml)) (hb : attributeBase o f X.env (eval o X.env) = eval o X.env := by rfl) : PE X (.Attribute o f pos) (tOfC X.K E (mFld c ml f)) :=
  pe_imp (pe_fld ho hb) fun σ H Q ⟨G, g, δ, re, po⟩ => tOfL.step re po fun q l g1 H1 δ1 e1 re1 r1 po1 => by
    split at po1
    · rename_i c' fs hx
      split at po1
      · rename_i hc
        subst hc
        split at po1
        · rename_i x hf
          obtain ⟨dx, vs, h1, h2⟩ := re1.insAt hC r1 hx
          rcases h2.look f with ⟨z, _⟩ | ⟨v, y, k1, k2, k3⟩
          · rw [z] at hf; cases hf
          · rw [k1] at hf
            cases hf
            exact ⟨q, C, dx, vs, v, rfl, h1, k, n, k2, Post.of po1 re1 v k3⟩
        · exact po1.elim
      · exact po1.elim
    · exact po1.elim
/-- o.f = e -/
def mSetF (c : Str) (ml : M Nat) (f : Str) (mc : M Cl) : M Fl := mBind mc fun x => mBind ml fun l δ => match δ.s[l]? with
  | some (.ins c' fs) => if c' = c ∧ fs.length < 1000 then .ok .nx ⟨δ.e, δ.s.set l (.ins c (putFC f x fs))⟩ else .bad
  | _ => .bad
theorem js_setF {pos' : Pos} {v : Expr} (hC : clsA X.K c = some C) (k : Cls X.K C) (n : NoAttr X.K C f) (ho : PE X o (tOfL X.K E ml)) (hv : PE X v (tOfC X.K E mc)) (hs : swapsWith v (some (.Attribute o f pos')) pos.line X.env = pure false := by rfl) : PS X (.Assign [.Attribute o f pos'] v pos) (tOfS X.K E (mSetF c ml f mc)) :=
  pst_imp (ps_fld ho hv hs) fun B σ H ⟨G, g, δ, re, po⟩ => tOfC.stepS re po fun w x g1 H1 δ1 e1 re1 r1 po1 => tOfL.stepS re1 po1 fun q l g2 H2 δ2 e2 re2 r2 po2 => by
    split at po2
    · rename_i c' fs hx
      split at po2
      · rename_i hc
        obtain ⟨hc, hl⟩ := hc
        subst hc
        obtain ⟨dx, vs, h1, h2⟩ := re2.insAt hC r2 hx
        exact ⟨q, C, dx, vs, rfl, h1, k, n, by rw [h2.length]; exact hl, PostS.of po2 (re2.write hx rfl r2 (.ins hC (h2.putF f (r1.le e2))))⟩
      · exact po2.elim
    · exact po2.elim
theorem evA_len : ∀ (as : List (M Cl)) (δ : Sx) (cs : List Cl) (δ' : Sx), evA as δ = .ok cs δ' → cs.length = as.length := fun as => by
  induction as with
  | nil => intro δ cs δ' h; cases h; rfl
  | cons m as ih =>
    intro δ cs δ' h
    unfold evA mBind at h
    cases q : m δ with
    | ok c δ1 =>
      rw [q] at h
      dsimp only at h
      cases q2 : evA as δ1 with
      | ok cs2 δ2 =>
        rw [q2] at h
        have h : Res.ok (c :: cs2) δ2 = Res.ok cs δ' := h
        injection h with h1 h2
        subst h1
        rw [List.length_cons, List.length_cons, ih _ _ _ q2]
      | exc y δ2 => rw [q2] at h; cases h
      | bad => rw [q2] at h; cases h
    | exc y δ1 => rw [q] at h; cases h
    | bad => rw [q] at h; cases h
/-- o.m(..) -/
def isIns (c m : Str) (l : Nat) : M Nat := fun δ => match δ.s[l]? with
  | some (.ins c' fs) => if c' = c ∧ fs.lookup m = none then .ok l δ else .bad
  | _ => .bad
theorem isIns_ok (c m : Str) (l : Nat) (δ : Sx) : isIns c m l δ = .bad ∨ ∃ fs, δ.s[l]? = some (.ins c fs) ∧ fs.lookup m = none ∧ isIns c m l δ = .ok l δ := by
  unfold isIns
  split
  · rename_i c' fs h
    split
    · rename_i hc
      obtain ⟨rfl, h2⟩ := hc
      exact .inr ⟨fs, h, h2, rfl⟩
    · exact .inl rfl
  · exact .inl rfl
def mMeth (c m : Str) (F : Fn) (ml : M Nat) (as : List (M Cl)) : M Cl := mBind ml fun l => mBind (isIns c m l) fun l => mBind (evA as) fun cs δ => match F (.lo l :: cs) δ.s with
  | .ok x s' => .ok x ⟨δ.e, s'⟩
  | .exc y s' => .bad
  | .bad => .bad
variable {F : Fn} {as : List (M Cl)} {k n : Nat} {fa : Addr} {fd : FuncData} {pr : List Str} {x m : Str} {es : List Expr} {p apos : Pos} {E0 : XK}
theorem meth_read (hC : clsA X.K c = some C) (hn : as.length + 1 = n) {σ : L2.St} {H : Hp} {Q : VK} (h : tOfC X.K E (mMeth c m F ml as) σ H Q) : tMeth C m (spF X.K n F) [] E0 (tOfL X.K E ml) (tOfA X.K E (evA as)) σ H Q := by
  obtain ⟨G, g, δ, re, po⟩ := h
  unfold tMeth
  refine tOfL.step re po fun q l g1 H1 δ1 e1 re1 r1 po1 => ?_
  unfold mBind at po1
  rcases isIns_ok c m l δ1 with h | ⟨fs, hx, hf, h⟩
  · rw [h] at po1; exact po1.elim
  rw [h] at po1
  dsimp only at po1
  obtain ⟨dx, vs, h1, h2⟩ := re1.insAt hC r1 hx
  have hlk : vs.lookup m = none := by
    rcases h2.look m with ⟨_, z⟩ | ⟨v, y, k1, _, _⟩
    · exact z
    · rw [hf] at k1; cases k1
  refine ⟨q, dx, vs, rfl, h1, hlk, ?_⟩
  have po' := po1
  cases qa : evA as δ1 with
  | ok cs0 δ0 =>
    have hl := evA_len _ _ _ _ qa
    rw [qa] at po'
    refine ⟨G, g1, δ1, re1, ?_⟩
    rw [qa]
    intro g2 H2 e2 re2 us r2
    have po2 := Post.ex po' e2
    rw [List.append_nil]
    dsimp only at po2
    refine ⟨by rw [List.length_cons, r2.length, hl, hn], G, g2, .lo l :: cs0, δ0.s, re2.bare, .cons (.lo (e2.r _ _ r1)) r2, ?_⟩
    cases q : F (.lo l :: cs0) δ0.s with
    | ok c s' =>
      rw [q] at po2
      exact fun g' H' e r v rv => po2 g' H' e (re2.lift e r) v rv
    | exc y s' => rw [q] at po2; exact po2.elim
    | bad => rw [q] at po2; exact po2.elim
  | exc y δ0 =>
    rw [qa] at po'
    refine ⟨G, g1, δ1, re1, ?_⟩
    rw [qa]
    exact po'
  | bad => rw [qa] at po'; exact po'.elim
theorem jc_meth {pl : Sem Bool} (hC : clsA X.K c = some C) (k0 : Cls X.K C) (hM : Meth X.K C m fa) (G : FnOk X.prog X.w X.K X.mg X.base CX0 k fa fd pr (spF X.K n F)) (hn : as.length + 1 = n) (hr : Room k X.A) (hb : Binds X.K fd pr []) (ho : PE X o (tOfL X.K E ml)) (ha : PA X (e :: es) (tOfA X.K E (evA as)))
    (hst : starEach (e :: es) X.env = (false, eval e X.env) :: starEach es X.env := by rfl) (hpl : (backTo pos (starEach es X.env)).any (·.1) = false := by rfl)
    (ht : eval (.Call (.Attribute o m apos) (e :: es) [] pos) X.env = (do
      let ov ← eval o X.env
      standAt apos.atName
      let (f, first) ← holding [ov] (getMethod ov m pl)
      callWith pos f first (backTo pos (starEach (e :: es) X.env)) (backToKw pos (keywordEach [] X.env))) := by rfl) : PE X (.Call (.Attribute o m apos) (e :: es) [] pos) (tOfC X.K E (mMeth c m F ml as)) :=
  pe_imp (pe_meth (pl := pl) ho k0 hM G hr hb .nil pass0 ha hst hpl ht) fun _ _ _ h => meth_read hC hn h
theorem jc_meth0 {pl : Sem Bool} (hC : clsA X.K c = some C) (k0 : Cls X.K C) (hM : Meth X.K C m fa) (G : FnOk X.prog X.w X.K X.mg X.base CX0 k fa fd pr (spF X.K 1 F)) (hr : Room k X.A) (hb : Binds X.K fd pr []) (ho : PE X o (tOfL X.K E ml))
    (ht : eval (.Call (.Attribute o m apos) [] [] pos) X.env = (do
      let ov ← eval o X.env
      standAt apos.atName
      let (f, first) ← holding [ov] (getMethod ov m pl)
      callWith pos f first (backTo pos (starEach [] X.env)) (backToKw pos (keywordEach [] X.env))) := by rfl) : PE X (.Call (.Attribute o m apos) [] [] pos) (tOfC X.K E (mMeth c m F ml [])) :=
  pe_imp (pe_meth0 (pl := pl) ho k0 hM G hr hb .nil pass0 ht) fun σ H Q h => by
    have z := meth_read (E0 := fun _ _ _ => False) hC (n := 1) rfl h
    unfold tMeth at z ⊢
    obtain ⟨G, g, δ, re, po⟩ := z
    refine ⟨G, g, δ, re, po.mono fun l g' H' δ' h a ha => ?_⟩
    obtain ⟨q, dx, fs, h1, h2, h3, h4⟩ := h a ha
    exact ⟨q, dx, fs, h1, h2, h3, nil_read h4⟩
/-- C(..) -/
def mMake (c : Str) (F : Fn) (as : List (M Cl)) : M Nat := mBind (evA as) fun cs δ => match F (.lo δ.s.length :: cs) (δ.s ++ [.ins c []]) with
  | .ok (.sh .none) s' => .ok δ.s.length ⟨δ.e, s'⟩
  | _ => .bad
theorem make_spec {G : Hp} {g1 : Gh} {H1 : Hp} {σ : L2.St} {δ1 : Sx} {cs : List Cl} {vs : List V} {Q : VK} (hC : clsA X.K c = some C) (hn : cs.length + 1 = n) (re1 : RE X.K G g1 H1 σ δ1) (r1 : All2 (CR X.K g1) vs cs) (po : Post X.K E G g1 σ (match F (.lo δ1.s.length :: cs) (δ1.s ++ [.ins c []]) with
  | .ok (.sh .none) s' => .ok δ1.s.length ⟨δ1.e, s'⟩
  | _ => (.bad : Res Nat)) fun l g' H' _ => ∀ a, g'.r[l]? = some a → Q (.ref a) H') : ∀ x dx, H1 x = none → H1 dx = none → dx ≠ x → spF X.K n F (.ref x :: (vs ++ [])) (upd (upd H1 dx (.own x)) x (.ins C dx [])) (fun v H2 => v = .non ∧ Q (.ref x) H2) E0 := by
  intro x dx hx hdx hne
  have ra := re1.newH (ex_new (o := .own x) hdx)
  have hx2 : upd H1 dx (.own x) x = none := by rw [upd_ne (Ne.symm hne)]; exact hx
  have rb := ra.newH (ex_new (o := .ins C dx []) hx2)
  have fr : Fro X.K G g1 (upd (upd H1 dx (.own x)) x (.ins C dx [])) x (.ins c []) := Fro.new ra hx2 (.ins hC .nil)
  obtain ⟨le, rc⟩ := rb.alloc fr
  have hlx : (g1.r ++ [x])[δ1.s.length]? = some x := by
    have hl : g1.r.length = δ1.s.length := re1.rl
    rw [← hl, List.getElem?_append_right (Nat.le_refl _), Nat.sub_self]
    rfl
  rw [List.append_nil]
  refine ⟨by rw [List.length_cons, r1.length, hn], G, ⟨g1.r ++ [x], g1.h⟩, .lo δ1.s.length :: cs, δ1.s ++ [.ins c []], rc.bare, .cons (.lo hlx) (CRs.le le r1), ?_⟩
  cases q : F (.lo δ1.s.length :: cs) (δ1.s ++ [.ins c []]) with
  | ok y s' =>
    rw [q] at po
    cases y with
    | sh d =>
      cases d with
      | none =>
        intro g' H' e r v rv
        refine ⟨?_, ?_⟩
        · cases rv with
          | sh h => cases h; rfl
        · exact po g' H' (le.trans e) (re1.lift (le.trans e) r) x (e.r _ _ hlx)
      | _ => exact po.elim
    | _ => exact po.elim
  | exc y s' => rw [q] at po; exact po.elim
  | bad => rw [q] at po; exact po.elim
theorem jl_make (hC : clsA X.K c = some C) (M0 : Mk X.K C fa) (G : FnOk X.prog X.w X.K X.mg X.base CX0 k fa fd pr (spF X.K n F)) (hn : as.length + 1 = n) (hr : Room (k + 1) X.A) (hg : Gl X x) (hm : X.mg x = some (.ref C)) (hb : Binds X.K fd pr []) (ha : PA X (e :: es) (tOfA X.K E (evA as)))
    (hdb : (x == ("__debug__" : Str)) = false := by decide) (he : starEach (e :: es) X.env = (false, eval e X.env) :: starEach es X.env := by rfl) (hpl : (backTo pos (starEach es X.env)).any (·.1) = false := by rfl) : PE X (.Call (.Name x p) (e :: es) [] pos) (tOfL X.K E (mMake c F as)) :=
  pe_imp (pe_make M0 G hr hg hm hb .nil pass0 ha hdb he hpl) fun σ H Q ⟨G, g, δ, re, po⟩ => by
    unfold tMake
    unfold mMake at po
    have po' := po
    unfold mBind at po'
    cases qa : evA as δ with
    | ok cs0 δ0 =>
      have hl := evA_len _ _ _ _ qa
      rw [qa] at po'
      refine ⟨G, g, δ, re, ?_⟩
      rw [qa]
      intro g1 H1 e1 re1 vs r1
      exact make_spec hC (by rw [hl, hn]) re1 r1 (Post.ex po' e1)
    | exc y δ0 =>
      rw [qa] at po'
      refine ⟨G, g, δ, re, ?_⟩
      rw [qa]
      exact po'
    | bad => rw [qa] at po'; exact po'.elim
end
end Ds
namespace Ds
open PySem PySem.Spec PyProof.Rows L2 Dn
section
variable {K : Frag} {G : Hp} {g : Gh} {H : Hp} {σ : L2.St} {δ : Sx}
theorem RE.lock {l : Nat} {d : Addr} {kvs : List (List Key × Cl)} {vs : List (List Key × V)} (r : RE K G g H σ δ) (hx : δ.s[l]? = some (.dt kvs)) (ha : g.r[l]? = some d) (h2 : KR K g vs kvs) (od : Obj) :
    Le g ⟨g.r, upd g.h d (.frz od (.dT vs))⟩ ∧ RE K G ⟨g.r, upd g.h d (.frz od (.dT vs))⟩ (upd H d (.frz od (.dT vs))) σ ⟨δ.e, δ.s.set l (.ft kvs)⟩ := by
  obtain ⟨b, u, q1, q2, q3, q4⟩ := r.ob l _ hx rfl
  rw [ha] at q1
  obtain rfl := Option.some.inj q1
  have hlt : l < δ.s.length := (List.getElem?_eq_some_iff.mp hx).1
  have e : Ex g.h (upd g.h d (.frz od (.dT vs))) := ex_new q4
  have le : Le g ⟨g.r, upd g.h d (.frz od (.dT vs))⟩ := ⟨fun _ _ h => h, e⟩
  refine ⟨le, ?_⟩
  exact {
    ex := fun a o z => by
      have z : upd g.h d (.frz od (.dT vs)) a = some o := z
      by_cases h : a = d
      · subst h; rw [upd_same] at z ⊢; exact z
      · rw [upd_ne h] at z ⊢; exact r.ex a o z
    fg := fun a o z => by
      obtain ⟨f1, f2, f3⟩ := r.fg a o z
      have h : a ≠ d := fun w => f3 (w ▸ List.mem_of_getElem? ha)
      exact ⟨by rw [upd_ne h]; exact f1, by show upd g.h d _ a = none; rw [upd_ne h]; exact f2, f3⟩
    len := r.len
    rl := by rw [r.rl]; simp
    sl := fun i c z hc => by
      obtain ⟨v, h1, h2⟩ := r.sl i c z hc
      exact ⟨v, h1, h2.le le⟩
    ob := fun l' o z hl => by
      rcases setGet z with ⟨rfl, w⟩ | ⟨hj, w⟩
      · subst w; cases hl
      · obtain ⟨a, v, f1, f2, f3, f4⟩ := r.ob l' o w hl
        have h : a ≠ d := fun k => hj (nodup_at r.nd (k ▸ f1) ha)
        exact ⟨a, v, f1, by rw [upd_ne h]; exact f2, f3.le le, by show upd g.h d _ a = none; rw [upd_ne h]; exact f4⟩
    nd := r.nd
    al := fun a hm => by
      by_cases h : a = d
      · subst h; rw [upd_same]; simp
      · rw [upd_ne h]; exact r.al a hm
    nt := fun a xs z => by
      by_cases h : a = d
      · subst h; rw [upd_same] at z; cases z
      · rw [upd_ne h] at z; exact r.nt a xs z
    gx := r.gx
    fz := fun l' kvs' z => by
      rcases setGet z with ⟨rfl, w⟩ | ⟨hj, w⟩
      · cases w
        exact ⟨d, od, vs, ha, upd_same, h2.imp fun _ _ k => ⟨k.1, k.2.le le⟩⟩
      · obtain ⟨a, o, ws, f1, f2, f3⟩ := r.fz l' kvs' w
        exact ⟨a, o, ws, f1, e _ _ f2, f3.imp fun _ _ k => ⟨k.1, k.2.le le⟩⟩ }
/-- a stable heap without d -/
def offH (h : Hp) (d : Addr) : Hp := fun a => if a = d then none else h a
theorem offH_ne {h : Hp} {d a : Addr} (k : a ≠ d) : offH h d a = h a := if_neg k
theorem offH_same {h : Hp} {d : Addr} : offH h d d = none := if_pos rfl
mutual
theorem Rp.unl {h : Hp} {d : Addr} {od : Obj} {vs : List (List Key × V)} (hd : h d = some (.frz od (.dT vs))) : ∀ {v : V} {x : D}, Rp K h v x → Rp K (offH h d) v x
  | _, _, .non => .non
  | _, _, .bl b => .bl b
  | _, _, .int i => .int i
  | _, _, .str x => .str x
  | _, _, .lst (a := a) q t => .lst (by
      rcases q with (q | ⟨o, q⟩) | q
      · have k : a ≠ d := fun z => by subst z; rw [hd] at q; cases q
        exact .inl (.inl (by rw [offH_ne k]; exact q))
      · have k : a ≠ d := fun z => by subst z; rw [hd] at q; cases q
        exact .inl (.inr ⟨o, by rw [offH_ne k]; exact q⟩)
      · exact .inr q) (Rps.unl hd t)
  | _, _, .tup (a := a) q t => .tup (by
      rcases q with q | q
      · have k : a ≠ d := fun z => by subst z; rw [hd] at q; cases q
        exact .inl (by rw [offH_ne k]; exact q)
      · exact .inr q) (Rps.unl hd t)
theorem Rps.unl {h : Hp} {d : Addr} {od : Obj} {vs : List (List Key × V)} (hd : h d = some (.frz od (.dT vs))) : ∀ {us : List V} {xs : List D}, Rps K h us xs → Rps K (offH h d) us xs
  | _, _, .nil => .nil
  | _, _, .cons r t => .cons (Rp.unl hd r) (Rps.unl hd t)
end
theorem CR.unl {d : Addr} {od : Obj} {vs : List (List Key × V)} (hd : g.h d = some (.frz od (.dT vs))) {v : V} {c : Cl} (r : CR K g v c) : CR K ⟨g.r, offH g.h d⟩ v c := by
  cases r with
  | sh h => exact .sh (Rp.unl hd h)
  | lo h => exact .lo h
theorem ObR.unl {d : Addr} {od : Obj} {vs : List (List Key × V)} (hd : g.h d = some (.frz od (.dT vs))) {o : Ob} {u : HO} (r : ObR K g o u) : ObR K ⟨g.r, offH g.h d⟩ o u := by
  cases r with
  | lst t => exact .lst (t.imp fun _ _ k => k.unl hd)
  | dk t => exact .dk (t.imp fun _ _ k => ⟨k.1, k.2.unl hd⟩)
  | dt t => exact .dt (t.imp fun _ _ k => ⟨k.1, k.2.unl hd⟩)
  | ins c t => exact .ins c (t.imp fun _ _ k => ⟨k.1, k.2.unl hd⟩)
theorem RE.unlock {l : Nat} {d : Addr} {od : Obj} {kvs : List (List Key × Cl)} {vs : List (List Key × V)} (r : RE K G g H σ δ) (hx : δ.s[l]? = some (.ft kvs)) (ha : g.r[l]? = some d) (hd : g.h d = some (.frz od (.dT vs))) :
    RE K G ⟨g.r, offH g.h d⟩ (upd H d (.dT vs)) σ ⟨δ.e, δ.s.set l (.dt kvs)⟩ := by
  obtain ⟨b, o', ws, q1, q2, q3⟩ := r.fz l _ hx
  rw [ha] at q1
  obtain rfl := Option.some.inj q1
  rw [hd] at q2
  cases q2
  exact {
    ex := fun a o z => by
      have z : offH g.h d a = some o := z
      by_cases h : a = d
      · subst h; rw [offH_same] at z; cases z
      · rw [offH_ne h] at z; rw [upd_ne h]; exact r.ex a o z
    fg := fun a o z => by
      obtain ⟨f1, f2, f3⟩ := r.fg a o z
      have h : a ≠ d := fun w => f3 (w ▸ List.mem_of_getElem? ha)
      exact ⟨by rw [upd_ne h]; exact f1, by show offH g.h d a = none; rw [offH_ne h]; exact f2, f3⟩
    len := r.len
    rl := by rw [r.rl]; simp
    sl := fun i c z hc => by
      obtain ⟨v, h1, h2⟩ := r.sl i c z hc
      exact ⟨v, h1, h2.unl hd⟩
    ob := fun l' o z hl => by
      rcases setGet z with ⟨rfl, w⟩ | ⟨hj, w⟩
      · subst w
        exact ⟨d, _, ha, upd_same, .dt (q3.imp fun _ _ k => ⟨k.1, k.2.unl hd⟩), offH_same⟩
      · obtain ⟨a, v, f1, f2, f3, f4⟩ := r.ob l' o w hl
        have h : a ≠ d := fun k => hj (nodup_at r.nd (k ▸ f1) ha)
        exact ⟨a, v, f1, by rw [upd_ne h]; exact f2, f3.unl hd, by show offH g.h d a = none; rw [offH_ne h]; exact f4⟩
    nd := r.nd
    al := fun a hm => by
      by_cases h : a = d
      · subst h; rw [upd_same]; simp
      · rw [upd_ne h]; exact r.al a hm
    nt := fun a xs z => by
      by_cases h : a = d
      · subst h; rw [upd_same] at z; cases z
      · rw [upd_ne h] at z; exact r.nt a xs z
    gx := r.gx
    fz := fun l' kvs' z => by
      rcases setGet z with ⟨rfl, w⟩ | ⟨hj, w⟩
      · cases w
      · obtain ⟨a, o, us, f1, f2, f3⟩ := r.fz l' kvs' w
        have h : a ≠ d := fun k => hj (nodup_at r.nd (k ▸ f1) ha)
        exact ⟨a, o, us, f1, by show offH g.h d a = _; rw [offH_ne h]; exact f2, f3.imp fun _ _ k => ⟨k.1, k.2.unl hd⟩⟩ }
theorem Rps.keys {h : Hp} : ∀ (ks : List Key), Rps K h (ks.map kV) (ks.map keyD)
  | [] => .nil
  | .inl i :: ks => .cons (.int i) (Rps.keys ks)
  | .inr x :: ks => .cons (.str x) (Rps.keys ks)
/-- the keys of a locked dict -/
def keysD (kvs : List (List Key × Cl)) : List D := kvs.map fun kv => .tuple (kv.1.map keyD)
theorem it_keysT {d : Addr} {od : Obj} {vs : List (List Key × V)} {kvs : List (List Key × Cl)} {Hs : Hp} (hd : Hs d = some (.frz od (.dT vs))) (r : KR K g vs kvs) : ItOk K Hs (Itkt d od vs) (keysD kvs) := fun Hs1 H1 e1 e2 i => by
  have hd1 : H1 d = some (.frz od (.dT vs)) := e2 _ _ (e1 _ _ hd)
  refine ⟨fun x hx => ?_, fun hn => ⟨hd1, ?_⟩⟩
  · unfold keysD at hx
    rw [List.getElem?_map] at hx
    obtain ⟨kv, h1, rfl⟩ := Option.map_eq_some_iff.mp hx
    obtain ⟨p, h2, h3⟩ := All2.get r h1
    have hi := (List.getElem?_eq_some_iff.mp h2).1
    refine ⟨⟨hd1, hi⟩, fun y H2 hy => ?_⟩
    obtain ⟨rfl, k, v, q, k1, rfl, k3⟩ := hy
    rw [h2] at k1
    cases k1
    have hk : k = kv.1 := h3.1
    subst hk
    exact ⟨_, Gs.adopt e2 k3, .tup (.of upd_same) (Rps.keys kv.1)⟩
  · unfold keysD at hn
    rw [List.getElem?_map, Option.map_eq_none_iff, List.getElem?_eq_none_iff] at hn
    have := All2.length r
    omega
end
section
variable {X : Cx} {E : XQ} {tg e : Expr} {pos : Pos} {ml p : M Nat}
def mKeysT (ml : M Nat) : M (List D) := mBind ml fun l δ => match δ.s[l]? with
  | some (.ft kvs) => .ok (keysD kvs) δ
  | _ => .bad
theorem ji_keysT (ho : PE X e (tOfL X.K E ml)) : PI X tg e (tOfI X.K E (mKeysT ml)) :=
  pi_imp (pi_keys ho) fun σ H R ⟨G, g, δ, re, po⟩ => tOfL.step re po fun q l g1 H1 δ1 e1 re1 r1 po1 => by
    split at po1
    · rename_i kvs hx
      obtain ⟨a, o, vs, h1, h2, h3⟩ := re1.fz l kvs hx
      rw [r1] at h1
      cases h1
      exact ⟨q, o, rfl, .inr ⟨vs, re1.ex _ _ h2, Post.of po1 re1 _ (it_keysT h2 h3)⟩⟩
    · exact po1.elim
/-- while the dict at p is locked -/
def mLock {α : Type} (p : M Nat) (m : M α) : M α := fun δ => match p δ with
  | .ok l _ => (match δ.s[l]? with
    | some (.dt kvs) => (match m ⟨δ.e, δ.s.set l (.ft kvs)⟩ with
      | .ok x δ' => (match δ'.s[l]? with
        | some (.ft kvs') => .ok x ⟨δ'.e, δ'.s.set l (.dt kvs')⟩
        | _ => .bad)
      | _ => .bad)
    | _ => .bad)
  | _ => .bad
theorem jo_lock {m : M (List Cl)} (h : PE X e (tOfO X.K E m)) : PE X e (tOfO X.K E (mLock p m)) :=
  pe_imp (pe_lock h) fun σ H Q ⟨G, g, δ, re, po⟩ => by
    unfold mLock at po
    split at po
    · rename_i l _ _
      split at po
      · rename_i kvs hx
        obtain ⟨d, u, h1, h2, h3, h4⟩ := re.ob l _ hx rfl
        cases h3 with
        | @dt _ vs h3 =>
          refine ⟨d, _, h2, trivial, fun od => ?_⟩
          obtain ⟨le, rl⟩ := re.lock hx h1 h3 od
          refine ⟨G, _, _, rl, ?_⟩
          cases qm : m ⟨δ.e, δ.s.set l (.ft kvs)⟩ with
          | ok x δ' =>
            rw [qm] at po
            dsimp only at po
            cases qx : δ'.s[l]? with
            | none => rw [qx] at po; exact po.elim
            | some o' =>
              rw [qx] at po
              cases o' with
              | ft kvs' =>
                dsimp only at po
                intro g2 H2 e2 re2 a fa
                have ha : g2.r[l]? = some d := e2.r _ _ h1
                have hd : g2.h d = some (.frz od (.dT vs)) := e2.h _ _ upd_same
                refine ⟨re2.ex _ _ hd, ?_⟩
                have re3 := re2.unlock qx ha hd
                have gd : G d = none := by
                  cases z : G d with
                  | none => rfl
                  | some w => exact absurd (List.mem_of_getElem? h1) (re.fg d w z).2.2
                have le3 : Le g ⟨g2.r, offH g2.h d⟩ := ⟨fun l a h => e2.r _ _ h, fun b w hb => by
                  have hne : b ≠ d := fun z => by subst z; rw [h4] at hb; cases hb
                  show offH g2.h d b = some w
                  rw [offH_ne hne]
                  exact e2.h _ _ (le.h _ _ hb)⟩
                obtain ⟨⟨ws, k1, k2⟩, k3, k4, k5⟩ := fa
                have hne : a ≠ d := fun z => k5 (z ▸ List.mem_of_getElem? ha)
                exact po _ _ le3 re3 a ⟨⟨ws, by rw [upd_ne hne]; exact k1, k2.imp fun _ _ k => k.unl hd⟩, by show offH g2.h d a = none; rw [offH_ne hne]; exact k3, k4, k5⟩
              | _ => exact po.elim
          | exc y δ' => rw [qm] at po; exact po.elim
          | bad => rw [qm] at po; exact po.elim
      · exact po.elim
    · exact po.elim
end
end Ds
namespace Ds
open PySem PySem.Spec PyProof.Rows L2 Dn
def tup1 : D → Bool
  | .tuple (_ :: _) => true
  | _ => false
def oth : D → Bool
  | .none => false
  | .tuple _ => false
  | _ => true
def sortB (ds : List D) : Bool := (ds.all fun d => ds.all fun e => PySem.W.alike d e) && (ds.all tup1 || ds.all oth) && (ds.all fun d => decide (d.depth ≤ 8)) && decide (ds.length ≤ sizeLine)
def sortD (ds : List D) : List D := ds.mergeSort (PySem.W.dataLe false id)
structure SortP (ds : List D) : Prop where
  al : PySem.W.AllAlike (ds.map id)
  so : PySem.W.Sortable (ds.map id)
  de : ∀ d ∈ ds, d.depth ≤ 8
  le : ds.length ≤ sizeLine
theorem sortB_p {ds : List D} (h : sortB ds = true) : SortP ds := by
  unfold sortB at h
  rw [Bool.and_eq_true, Bool.and_eq_true, Bool.and_eq_true, Bool.or_eq_true] at h
  obtain ⟨⟨⟨h1, h2⟩, h3⟩, h4⟩ := h
  refine ⟨?_, ?_, fun d hd => of_decide_eq_true (List.all_eq_true.mp h3 d hd), of_decide_eq_true h4⟩
  · rw [List.map_id]
    exact fun d hd e he => List.all_eq_true.mp (List.all_eq_true.mp h1 d hd) e he
  · rw [List.map_id]
    rcases h2 with h2 | h2
    · refine .inl fun d hd => ?_
      have := List.all_eq_true.mp h2 d hd
      cases d with
      | tuple xs =>
        cases xs with
        | nil => cases this
        | cons x r => exact ⟨x, r, rfl⟩
      | _ => cases this
    · refine .inr fun d hd => ?_
      have := List.all_eq_true.mp h2 d hd
      refine ⟨fun z => ?_, fun xs z => ?_⟩
      · subst z; cases this
      · subst z; cases this
section
variable {X : Cx} {pins : List (Addr × Obj)} {σ : L2.St} {H : Hp} {s : Shared}
theorem each_of {K : Frag} {xs : List V} {us : List Value} {ds : List D} (r : Rps K H xs ds) : Vals xs us → PySem.W.EachIs (fun u d => ∃ v, RelV v u ∧ Rp K H v d) us ds := by
  intro h
  induction h generalizing ds with
  | nil => cases r; exact .nil
  | cons h t ih =>
    cases r with
    | cons r1 r2 => exact .cons ⟨_, h, r1⟩ (ih r2)
theorem of_each {K : Frag} {us : List Value} {ds : List D} (r : PySem.W.EachIs (fun u d => ∃ v, RelV v u ∧ Rp K H v d) us ds) : ∃ xs, Vals xs us ∧ Rps K H xs ds := by
  induction r with
  | nil => exact ⟨[], .nil, .nil⟩
  | cons h t ih =>
    obtain ⟨v, h1, h2⟩ := h
    obtain ⟨xs, k1, k2⟩ := ih
    exact ⟨v :: xs, .cons h1 k1, .cons h2 k2⟩
def rSortData (K : Frag) : List V → Hp → VK → Prop := fun vs H Q => ∃ Hs a xs ds, vs = [V.ref a] ∧ Ex Hs H ∧ SqL K H a xs ∧ Rps K Hs xs ds ∧ SortP ds ∧ ∀ ys p, Rps K Hs ys (sortD ds) → H p = none → Q (.ref p) (upd H p (.lst ys))
theorem cr_sortData (hu : X.A.units + 64 < cLine) : CallR X (.builtin "sorted") (rSortData X.K) := by
  intro pins s σ H vs us Q I r h
  obtain ⟨Hs, a, xs, ds, rfl, ex, hs, hr, hp, q⟩ := h
  obtain ⟨its, rv, hl, hz⟩ := I.list hs
  rw [Vals.ref1 r]
  have e := each_of hr rv
  have er : PySem.W.EachIs (fun u d => ∃ as, Reads s.heap u (id d) as) its ds := e.mono fun u d ⟨v, h1, h2⟩ => Dp.reads I d v u (Rp.dp (h2.ex ex)) h1
  refine PySem.W.sorted_data (enc := id) hl.isList e er hp.al hp.so hp.le (fun d hd => ?_) fun out hlo ho => ?_
  · have := hp.de d hd
    show _ + 2 + d.depth < cLine
    first
      | omega
      | (show X.A.units + 1 + 2 + d.depth < cLine; omega)
      | (show X.A.units + 1 + 1 + 2 + d.depth < cLine; omega)
  · obtain ⟨ys, k1, k2⟩ := of_each ho
    obtain ⟨ep, he'⟩ := PyProof.Rows.sortedAll_at s.heap its out.toArray
    have hlen : ys.length ≤ sizeLine := by
      rw [Rps.length k2]
      rw [List.length_mergeSort]
      exact hp.le
    refine ⟨.ref _, upd H (s.heap.objs.size + 1) (.lst ys), I.laid (t' := s.toks) (fun _ _ => PyProof.Rows.sortedAll_old) (Nat.le_succ _) ⟨hlen, out, ep, k1, he'⟩, rfl, q _ _ k2 (I.hok.fresh (Nat.le_succ _))⟩
end
section
variable {X : Cx} {E : XQ} {o : Expr} {pos p : Pos} {ml : M Nat} {m : M D}
/-- sorted of data -/
def mSortL (m : M D) : M D := mBind m fun d => mOpt (match d with
  | .list ds => if sortB ds then some (.list (sortD ds)) else none
  | _ => none)
theorem je_sortL (hu : X.A.units + 64 < cLine) (hg : Gl X "sorted") (hm : X.mg "sorted" = none) (hv : bootBuiltins "sorted" = some (.builtin "sorted")) (ho : PE X o (tOf X.K E m))
    (h1 : starEach [o] X.env = (false, eval o X.env) :: starEach [] X.env := by rfl) (hpl : (backTo pos (starEach [] X.env)).any (·.1) = false := by rfl) : PE X (.Call (.Name "sorted" p) [o] [] pos) (tOf X.K E (mSortL m)) :=
  pe_imp (pe_callB (cr_sortData hu) hg hm hv (pa_cons ho pa_nil h1) (by decide) (by decide) h1 hpl) fun σ H Q ⟨G, g, δ, re, po⟩ => by
    show tOf X.K E m σ H fun v H1 => rSortData X.K [v] H1 Q
    refine tOf.step re po fun v d g1 H1 δ1 e1 re1 r1 po1 => ?_
    obtain ⟨c, hc, po2⟩ := Post.opt po1
    cases r1 with
    | @lst a xs ds q t =>
      dsimp only at hc
      split at hc
      · rename_i hb
        cases hc
        exact ⟨g1.h, a, xs, ds, rfl, re1.ex, sqL_ex re1.ex q, t, sortB_p hb, fun ys b hy hb' => Post.grow po2 re1 (Grw.new re1.ex hb') _ (.lst (SqL.of upd_same) (Rps.ex (Gr.new re1.ex hb').s hy))⟩
      · cases hc
    | _ => cases hc
/-- sorted of a dict with tuple keys -/
def mSortDT (ml : M Nat) : M D := mBind ml fun l δ => match tkAt δ.s l with
  | some kvs => if sortB (keysD kvs) then .ok (.list (sortD (keysD kvs))) δ else .bad
  | none => .bad
end
end Ds
namespace Ds
open PySem PySem.Spec PyProof.Rows L2 Dn
section
variable {X : Cx} {E : XQ} {a b : Expr} {pos p p' : Pos} {ma mb : M D}
def mListR1 (m : M D) : M D := mBind m fun d => mOpt (match d with
  | .int j => if inLine j = true ∧ (j - 0).toNat ≤ 16777216 then some (.list (rngD 0 (j - 0).toNat)) else none
  | _ => none)
end
end Ds
namespace Ds
open PySem PySem.Spec PyProof.Rows L2 Dn
theorem KVs.none {K : Frag} {es : List DictEntry} {kvs : List (Str × D)} (h : KVs K es kvs) {z : Str} (q : lookS kvs z = none) : es.find? (·.key.isStr z) = none := by
  induction h with
  | nil => rfl
  | @cons e r x t v d0 kvs he hv hr _ ih =>
    have k1 : e.key.isStr z = (x == z) := by rw [he]; rfl
    unfold lookS at q ih
    rw [List.find?_cons] at q ⊢
    by_cases hx : x = z
    · rw [decide_eq_true hx] at q
      cases q
    · rw [decide_eq_false hx] at q
      have : (x == z) = false := by simpa using hx
      rw [k1, this]
      exact ih q
end Ds
namespace Ds
open PySem PySem.Spec PyProof.Rows L2 Dn
/-- what an exception is as data: its class, by the class's name -/
def XD (num : Option Int) (d : Option Addr) (H : Hp) : Prop := match num with
  | none => d = none
  | some n => ∃ (dx : Addr) (fs : List (Str × V)), d = some dx ∧ H dx = some (.xd fs) ∧ fs.lookup ("number" : Str) = some (V.int n)
def XR (K : Frag) (y : Exn) (cls : Value) (d : Option Addr) (H : Hp) : Prop := ∃ C, clsA K y.cls = some C ∧ cls = .ref C ∧ XD y.num d H
def wX (K : Frag) (E : XQ) : WX := fun cls d σ H => ∃ y, XR K y cls d H ∧ E y σ H
def xqOf (K : Frag) (E0 : XK) : XQ := fun y _ H => ∀ cls d, XR K y cls d H → E0 cls d H
def xqW (K : Frag) (W : WX) : XQ := fun y σ H => ∀ cls d, XR K y cls d H → W cls d σ H
theorem wX_of {K : Frag} {E0 : XK} {cls : Value} {d : Option Addr} {σ : L2.St} {H : Hp} (h : wX K (xqOf K E0) cls d σ H) : E0 cls d H := by
  obtain ⟨y, h1, h2⟩ := h
  exact h2 _ _ h1
theorem wX_W {K : Frag} {W : WX} {cls : Value} {d : Option Addr} {σ : L2.St} {H : Hp} (h : wX K (xqW K W) cls d σ H) : W cls d σ H := by
  obtain ⟨y, h1, h2⟩ := h
  exact h2 _ _ h1
/-- a def that may raise -/
def spX (K : Frag) (n : Nat) (F : Fn) : Sp := fun vs H Q E => vs.length = n ∧ ∃ (G : Hp) (g : Gh) (as : List Cl) (s : List Ob), RE K G g H [] ⟨[], s⟩ ∧ All2 (CR K g) vs as ∧
  match F as s with
  | .ok c s' => ∀ g' H', Le g g' → RE K G g' H' [] ⟨[], s'⟩ → ∀ v, CR K g' v c → Q v H'
  | .exc x s' => ∀ g' H', Le g g' → RE K G g' H' [] ⟨[], s'⟩ → ∀ cls d, XR K x cls d H' → E cls d H'
  | .bad => False
section
variable {P : Program} {w : World} {K : Frag} {mg : Str → Option Value} {base : Heap}
theorem fnX_J {x qual : Str} {st : Stmt} {f : Addr} {fd : FuncData} {N pr : List Str} {k n nN : Nat} {mb : M Fl} (F : Fun K x qual st f fd) (S : FnScope N pr (defScope st)) (hn : pr.length = n) (hN : N.length = nN) (hle : n ≤ nN)
    (hbody : ∀ (cdv : Value) (A : Around) (outer : List PySem.Env) (s : Shared) (H : Hp) (E : XK), Room k (A.deeper (envOfC qual (defScope st) s.heap.objs.size f cdv)) →
      Takes (cxOf (L2.CX P w) P w K mg base N qual (defScope st) f cdv A outer s H E) (wX K (xqOf K E)) →
      PassesOwn (model P w) (cxOf (L2.CX P w) P w K mg base N qual (defScope st) f cdv A outer s H E).A (cxOf (L2.CX P w) P w K mg base N qual (defScope st) f cdv A outer s H E).env (cxOf (L2.CX P w) P w K mg base N qual (defScope st) f cdv A outer s H E).xe →
      PSs (cxOf (L2.CX P w) P w K mg base N qual (defScope st) f cdv A outer s H E) (defBody st) (tOfS K (xqOf K E) mb)) : FnOk P w K mg base (L2.CX P w) (k + 1) f fd pr (spX K n (fnF n nN mb)) := by
  refine F.okX S (fun vs H Q E h => by rw [h.1, hn]) fun cdv A outer s H vs Q E hr h => ⟨_, hbody cdv A outer s H E hr ((takes_of rfl rfl rfl rfl).imp fun c d σ H h => wX_of h) (passes_of rfl), ?_⟩
  obtain ⟨hl, G, g, as, st0, re, t, po⟩ := h
  have hst : L2.start N vs = vs.map some ++ List.replicate (nN - n) none := by unfold L2.start; rw [hN, hl]
  refine ⟨G, g, ⟨as ++ List.replicate (nN - n) .no, st0⟩, by rw [hst]; exact re.start t _, ?_⟩
  have hal : as.length = n := by rw [← t.length, hl]
  unfold fnF at po
  rw [if_pos hal] at po
  have grl : g.r.length = st0.length := re.rl
  have fin : ∀ {c : Cl} {δ' : Sx} {σ' : L2.St} {g' : Gh} {H' : Hp} {v : V}, (∀ g' H', Le g g' → RE K G g' H' [] ⟨[], trim st0.length c δ'.s⟩ → ∀ v, CR K g' v c → Q v H') → Le g g' → RE K G g' H' σ' δ' → CR K g' v c → Q v H' := fun {c δ' σ' g' H' v} k e r hc => by
    have hn' : st0.length ≤ δ'.s.length := by
      rw [← r.rl, ← grl]
      by_cases h0 : g.r.length = 0
      · omega
      · have := (List.getElem?_eq_some_iff.mp (e.r (g.r.length - 1) _ (List.getElem?_eq_getElem (by omega)))).1
        omega
    obtain ⟨g2, a1, a2, a3, a4⟩ := RE.trim (δ := δ') (n := st0.length) r.bare hn' hc
    refine k g2 H' ⟨fun l a h => a2 l a ?_ (e.r l a h), by rw [a1]; exact e.h⟩ a3 v a4
    have := (List.getElem?_eq_some_iff.mp h).1
    omega
  cases q : mb ⟨as ++ List.replicate (nN - n) .no, st0⟩ with
  | ok fl δ' =>
    rw [q] at po
    cases fl with
    | nx => exact fun σ' g' H' e r => fin po e r (.sh .non)
    | rt c => exact fun σ' g' H' e r v rv => fin po e r rv
    | bk => exact po.elim
    | ct => exact po.elim
  | exc x δ' =>
    rw [q] at po
    exact fun σ' g' H' e r cls d xr => po g' H' e r.bare cls d xr
  | bad => rw [q] at po; exact po.elim
end
section
variable {X : Cx} {E : XQ} {E0 : XK} {F : Fn} {as : List (M Cl)} {k n : Nat} {f C : Addr} {fd : FuncData} {pr : List Str} {x m c : Str} {e o : Expr} {es : List Expr} {p p2 pos pos' apos : Pos} {j : Nat}
def mRaise (x : Str) : M Fl := fun δ => .exc ⟨x, none⟩ δ
def mCallX (F : Fn) (as : List (M Cl)) : M Cl := mBind (evA as) fun cs δ => match F cs δ.s with
  | .ok c s' => .ok c ⟨δ.e, s'⟩
  | .exc x s' => .exc x ⟨δ.e, s'⟩
  | .bad => .bad
theorem callX_spec {G : Hp} {g : Gh} {H : Hp} {σ : L2.St} {δ : Sx} {cs : List Cl} {vs : List V} {Q : VK} (hn : cs.length = n) (re : RE X.K G g H σ δ) (r1 : All2 (CR X.K g) vs cs) (po : Post X.K E G g σ (match F cs δ.s with
  | .ok c s' => .ok c ⟨δ.e, s'⟩
  | .exc x s' => .exc x ⟨δ.e, s'⟩
  | .bad => (.bad : Res Cl)) fun c g' H' _ => ∀ v, CR X.K g' v c → Q v H') : spX X.K n F vs H Q (WE (wX X.K E) σ) := by
  refine ⟨by rw [r1.length, hn], G, g, cs, δ.s, re.bare, r1, ?_⟩
  cases q : F cs δ.s with
  | ok c s' =>
    rw [q] at po
    exact fun g' H' e r v rv => po g' H' e (re.lift e r) v rv
  | exc y s' =>
    rw [q] at po
    exact fun g' H' e r cls d xr => ⟨y, xr, po g' H' e (re.lift e r)⟩
  | bad => rw [q] at po; exact po.elim
theorem callX_read (hn : as.length = n) {σ : L2.St} {H : Hp} {Q : VK} (h : tOfC X.K E (mCallX F as) σ H Q) : tOfA X.K E (evA as) σ H fun vs H1 => spX X.K n F vs H1 Q (WE (wX X.K E) σ) := by
  obtain ⟨G, g, δ, re, po⟩ := h
  unfold mCallX at po
  have po' := po
  unfold mBind at po'
  cases qa : evA as δ with
  | ok cs0 δ0 =>
    have hl := evA_len _ _ _ _ qa
    rw [qa] at po'
    refine ⟨G, g, δ, re, ?_⟩
    rw [qa]
    intro g1 H1 e1 re1 vs r1
    exact callX_spec (by rw [hl, hn]) re1 r1 (Post.ex po' e1)
  | exc y δ0 =>
    rw [qa] at po'
    refine ⟨G, g, δ, re, ?_⟩
    rw [qa]
    exact po'
  | bad => rw [qa] at po'; exact po'.elim
theorem jc_callX (tk : Takes X (wX X.K E)) (G : FnOk X.prog X.w X.K X.mg X.base (L2.CX X.prog X.w) k f fd pr (spX X.K n F)) (hn : as.length = n) (hr : Room k X.A) (hg : Gl X x) (hm : X.mg x = some (.ref f)) (hk : PySem.W.keepIn X.K (.ref f) = true) (hb : Binds X.K fd pr []) (ha : PA X (e :: es) (tOfA X.K E (evA as)))
    (hdb : (x == ("__debug__" : Str)) = false := by decide) (he : starEach (e :: es) X.env = (false, eval e X.env) :: starEach es X.env := by rfl) (hpl : (backTo pos (starEach es X.env)).any (·.1) = false := by rfl) : PE X (.Call (.Name x p) (e :: es) [] pos) (tOfC X.K E (mCallX F as)) :=
  pe_imp (pe_callS G hr hg hm hk hb (fun σ => passAt tk σ) ha hdb he hpl) fun _ _ _ h => callX_read hn h
/-- o.m(..), m may raise: where the wish is the def's own -/
def mMethX (c m : Str) (F : Fn) (ml : M Nat) (as : List (M Cl)) : M Cl := mBind ml fun l => mBind (isIns c m l) fun l => mBind (evA as) fun cs δ => match F (.lo l :: cs) δ.s with
  | .ok x s' => .ok x ⟨δ.e, s'⟩
  | .exc y s' => .exc y ⟨δ.e, s'⟩
  | .bad => .bad
def xs (K : Frag) (E0 : XK) : XK := fun cls d H => ∃ y, XR K y cls d H ∧ ∀ cls d, XR K y cls d H → E0 cls d H
variable {fa : Addr} {ml : M Nat}
end
end Ds
namespace Ds
open PySem PySem.Spec PyProof.Rows L2 Dn
theorem XD.ex {num : Option Int} {d : Option Addr} {H H' : Hp} (e : Ex H H') (h : XD num d H) : XD num d H' := by
  cases num with
  | none => exact h
  | some n =>
    obtain ⟨dx, fs, h1, h2, h3⟩ := h
    exact ⟨dx, fs, h1, e _ _ h2, h3⟩
/-- in an except suite: slot i holds the exception a that was caught, its dict d stands -/
def CfK {α : Type} (K : Frag) (i : Nat) (a : Addr) (num : Option Int) (d : Option Addr) (m : M α) (σ : L2.St) (H : Hp) (Q : Hp → α → Gh → Hp → Sx → Prop) : Prop :=
  σ[i]? = some (some (.ref a)) ∧ ∃ (G : Hp) (g : Gh) (δ : Sx), RE K G g H σ δ ∧ XD num d g.h ∧ Post K noX G g σ (m δ) (Q G)
def tKD (K : Frag) (i : Nat) (a : Addr) (num : Option Int) (d : Option Addr) (m : M D) : TE := fun σ H Q => CfK K i a num d m σ H fun _ x g' H' _ => ∀ v, Rp K g'.h v x → Q v H'
def tKC (K : Frag) (i : Nat) (a : Addr) (num : Option Int) (d : Option Addr) (m : M Cl) : TE := fun σ H Q => CfK K i a num d m σ H fun _ c g' H' _ => ∀ v, CR K g' v c → Q v H'
def tKT (K : Frag) (i : Nat) (a : Addr) (num : Option Int) (d : Option Addr) (m : M Bool) : TT := fun σ H Q => CfK K i a num d m σ H fun _ b _ H' _ => Q b H'
def Bk (i : Nat) (a : Addr) (B : Ends) : Ends := { nx := fun σ H => σ[i]? = some (some (.ref a)) → B.nx σ H, rt := B.rt, bk := fun σ H => σ[i]? = some (some (.ref a)) → B.bk σ H, ct := fun σ H => σ[i]? = some (some (.ref a)) → B.ct σ H }
/-- statements of an except suite -/
def tKS (K : Frag) (i : Nat) (a : Addr) (num : Option Int) (d : Option Addr) (m : M Fl) : TS := fun B σ H => σ[i]? = some (some (.ref a)) ∧ ∃ (G : Hp) (g : Gh) (δ : Sx), RE K G g H σ δ ∧ XD num d g.h ∧ PostF K noX G g (m δ) (Bk i a B)
section
variable {X : Cx} {i j : Nat} {a : Addr} {num : Option Int} {d : Option Addr} {e b c : Expr} {es : List Expr} {st : Stmt} {rest : List Stmt} {pos : Pos} {m ma mb : M D} {mc : M Cl} {m1 m2 : M Fl} {t1 t2 : M Bool} {K : Frag} {G : Hp} {g : Gh} {H : Hp} {σ : L2.St} {δ : Sx}
theorem CfK.step {α β : Type} {ma : M α} {f : α → M β} {QQ : β → Gh → Hp → Sx → Prop} {R : Hp → α → Gh → Hp → Sx → Prop} (hs : σ[i]? = some (some (.ref a))) (re : RE K G g H σ δ) (xd : XD num d g.h) (po : Post K noX G g σ (mBind ma f δ) QQ)
    (k : ∀ x g1 H1 δ1, Le g g1 → RE K G g1 H1 σ δ1 → XD num d g1.h → Post K noX G g1 σ (f x δ1) QQ → R G x g1 H1 δ1) : CfK K i a num d ma σ H R := by
  refine ⟨hs, G, g, δ, re, xd, ?_⟩
  unfold mBind at po
  cases h : ma δ with
  | ok x δ1 =>
    rw [h] at po
    exact fun g' H' e r => k x g' H' δ1 e r (xd.ex e.h) (Post.ex po e)
  | exc x δ1 =>
    rw [h] at po
    exact po
  | bad =>
    rw [h] at po
    exact po
theorem CfK.stepS {α : Type} {ma : M α} {f : α → M Fl} {B : Ends} {R : Hp → α → Gh → Hp → Sx → Prop} (hs : σ[i]? = some (some (.ref a))) (re : RE K G g H σ δ) (xd : XD num d g.h) (po : PostF K noX G g (mBind ma f δ) B)
    (k : ∀ x g1 H1 δ1, Le g g1 → RE K G g1 H1 σ δ1 → XD num d g1.h → PostF K noX G g1 (f x δ1) B → R G x g1 H1 δ1) : CfK K i a num d ma σ H R := by
  refine ⟨hs, G, g, δ, re, xd, ?_⟩
  unfold mBind at po
  cases h : ma δ with
  | ok x δ1 =>
    rw [h] at po
    exact fun g' H' e r => k x g' H' δ1 e r (xd.ex e.h) (PostS.ex po e)
  | exc x δ1 =>
    rw [h] at po
    exact fun g' H' e r => po σ g' H' e r
  | bad =>
    rw [h] at po
    exact po
theorem jkc_free (h : PE X e (tOfC X.K noX mc)) : PE X e (tKC X.K i a num d mc) := pe_imp h fun _ _ _ ⟨_, G, g, δ, re, _, po⟩ => ⟨G, g, δ, re, po⟩
theorem jkt_free (h : PT X e (tOfT X.K noX t1)) : PT X e (tKT X.K i a num d t1) := pt_imp h fun _ _ _ ⟨_, G, g, δ, re, _, po⟩ => ⟨G, g, δ, re, po⟩
theorem jk_sh (h : PE X e (tKD X.K i a num d m)) : PE X e (tKC X.K i a num d (mSh m)) := pe_imp h fun σ H Q ⟨hs, G, g, δ, re, xd, po⟩ => CfK.step hs re xd po fun x g1 H1 δ1 e1 re1 xd1 po1 v r1 => Post.of po1 re1 _ (.sh r1)
theorem jks_nil : PSs X [] (tKS X.K i a num d mNx) := pss_imp pss_nil fun B σ H ⟨hs, G, g, δ, re, xd, po⟩ => PostS.of po re hs
theorem jks_one (h : PS X st (tKS X.K i a num d m1)) : PSs X [st] (tKS X.K i a num d m1) := pss_one h
theorem jks_cons (h : PS X st (tKS X.K i a num d m1)) (t : PSs X rest (tKS X.K i a num d m2)) : PSs X (st :: rest) (tKS X.K i a num d (mSeq m1 m2)) :=
  pss_imp (pss_cons h t) fun B σ H ⟨hs, G, g, δ, re, xd, po⟩ => by
    refine ⟨hs, G, g, δ, re, xd, ?_⟩
    unfold mSeq at po
    cases q : m1 δ with
    | ok fl δ1 =>
      rw [q] at po
      cases fl with
      | nx => exact fun σ' g' H' e r hs' => ⟨hs', G, g', δ1, r, xd.ex e.h, PostS.ex po e⟩
      | rt s => exact po
      | bk => exact po
      | ct => exact po
    | exc x δ1 =>
      rw [q] at po
      exact po
    | bad =>
      rw [q] at po
      exact po
theorem jks_set {x : Str} {pos' : Pos} (hij : j ≠ i) (hN : X.N.Nodup) (hi : X.N[j]? = some x) (hx : Loc X.env.scope x) (h : PE X e (tKC X.K i a num d mc)) (hs : swapsWith e (some (.Name x pos')) pos.line X.env = pure false := by rfl) (hf : X.fn x = true ∨ X.env.scope.names.lookup x = some .local := by first | exact .inl rfl | exact .inr rfl | assumption) :
    PS X (.Assign [.Name x pos'] e pos) (tKS X.K i a num d (mSet j mc)) :=
  pst_imp (ps_set hN hi hx h hs hf) fun B σ H ⟨hk, G, g, δ, re, xd, po⟩ => CfK.stepS hk re xd po fun c g1 H1 δ1 e1 re1 xd1 po1 v r1 => PostS.of po1 (re1.set r1) (by rw [List.getElem?_set_ne hij]; exact hk)
theorem jks_if {sa sb : List Stmt} {t : M Bool} (hc : PT X c (tKT X.K i a num d t)) (h1 : PSs X sa (tKS X.K i a num d m1)) (h2 : PSs X sb (tKS X.K i a num d m2)) : PS X (.If c sa sb pos) (tKS X.K i a num d (mIfS t m1 m2)) :=
  pst_imp (ps_if hc h1 h2) fun B σ H ⟨hk, G, g, δ, re, xd, po⟩ => CfK.stepS hk re xd po fun b g1 H1 δ1 e1 re1 xd1 po1 => by
    cases b with
    | true => exact ⟨hk, G, g1, δ1, re1, xd1, po1⟩
    | false => exact ⟨hk, G, g1, δ1, re1, xd1, po1⟩
theorem jkw_and1 (h : PT X e (tKT X.K i a num d t1)) : PW X (.BoolOp .And [e] pos) (tKT X.K i a num d t1) := pw_and1 h
theorem jkw_and (h : PT X e (tKT X.K i a num d t1)) (h2 : PW X (.BoolOp .And (b :: es) pos) (tKT X.K i a num d t2)) : PW X (.BoolOp .And (e :: b :: es) pos) (tKT X.K i a num d (mAndT t1 t2)) :=
  pw_imp (pw_and h h2) fun σ H Q ⟨hs, G, g, δ, re, xd, po⟩ => CfK.step hs re xd po fun b g1 H1 δ1 e1 re1 xd1 po1 => by
    cases b with
    | true => exact ⟨hs, G, g1, δ1, re1, xd1, po1⟩
    | false => exact Post.of po1 re1
theorem jkt_val (h : PE X e (tKD X.K i a num d m)) (he : ∀ whole, isTrue e X.env whole = (do let v ← whole; standAt e.pos; holding [v] (truthy v)) := by intro _; rfl) : PT X e (tKT X.K i a num d (mTest m)) :=
  pt_imp (pt_val h he) fun σ H Q ⟨hs, G, g, δ, re, xd, po⟩ => by
    refine CfK.step hs re xd po fun x g1 H1 δ1 e1 re1 xd1 po1 v r1 => ?_
    obtain ⟨c, hc, po3⟩ := Post.opt po1
    cases r1 <;> simp [toB] at hc
    subst hc
    exact ⟨_, rfl, Post.of po3 re1⟩
end
/-- the dict of an error that was caught is put among what never changes -/
theorem RE.freezeX {K : Frag} {G : Hp} {g : Gh} {H : Hp} {σ : L2.St} {δ : Sx} {num : Option Int} {d : Option Addr} (r : RE K G g H σ δ) (xd : XD num d H) : ∃ g', Le g g' ∧ RE K G g' H σ δ ∧ XD num d g'.h := by
  cases num with
  | none => exact ⟨g, Le.refl _, r, xd⟩
  | some n =>
    obtain ⟨dx, fs, h1, h2, h3⟩ := xd
    have gd : G dx = none := by
      cases q : G dx with
      | none => rfl
      | some o =>
        have z := (r.fg dx o q).1
        rw [h2] at z
        cases z
        exact absurd q (r.gx dx fs)
    have en : Ex g.h (upd g.h dx (.xd fs)) := fun b o q => by
      by_cases hb : b = dx
      · subst hb
        have z := r.ex b o q
        rw [h2] at z
        cases z
        exact upd_same
      · rw [upd_ne hb]; exact q
    have le : Le g ⟨g.r, upd g.h dx (.xd fs)⟩ := ⟨fun _ _ h => h, en⟩
    refine ⟨⟨g.r, upd g.h dx (.xd fs)⟩, le, ?_, dx, fs, h1, upd_same, h3⟩
    exact {
      ex := fun b o q => by
        have q : upd g.h dx (.xd fs) b = some o := q
        by_cases hb : b = dx
        · subst hb; rw [upd_same] at q; cases q; exact h2
        · rw [upd_ne hb] at q; exact r.ex b o q
      fg := fun b o q => by
        obtain ⟨f1, f2, f3⟩ := r.fg b o q
        have hb : b ≠ dx := fun z => by rw [z, gd] at q; cases q
        exact ⟨f1, by show upd g.h dx _ b = none; rw [upd_ne hb]; exact f2, f3⟩
      len := r.len
      rl := r.rl
      sl := fun i c q hc => by
        obtain ⟨v, q1, q2⟩ := r.sl i c q hc
        exact ⟨v, q1, q2.le le⟩
      ob := fun l o q hl => by
        obtain ⟨b, u, q1, q2, q3, q4⟩ := r.ob l o q hl
        have hb : b ≠ dx := fun z => by
          rw [z, h2] at q2
          cases q2
          cases q3
        exact ⟨b, u, q1, q2, q3.le le, by show upd g.h dx _ b = none; rw [upd_ne hb]; exact q4⟩
      nd := r.nd
      al := r.al
      nt := r.nt
      gx := r.gx
      fz := fun l kvs q => by
        obtain ⟨b, o', vs', f1, f2, f3⟩ := r.fz l kvs q
        exact ⟨b, o', vs', f1, en _ _ f2, f3.imp fun _ _ z => ⟨z.1, z.2.le le⟩⟩ }
section
variable {X : Cx} {E : XQ} {x n : Str} {c : Value} {i : Nat} {body suite : List Stmt} {b₀ : Stmt} {np pos pos' : Pos} {mb : M Fl} {ms : Exn → M Fl} {hit : Str → Option Bool}
/-- what the suite leaves behind it -/
def endAs (i : Nat) : Res Fl → Res Fl
  | .ok fl δ => .ok fl ⟨δ.e.set i .no, δ.s⟩
  | _ => .bad
def mTryAs (i : Nat) (hit : Str → Option Bool) (mb : M Fl) (ms : Exn → M Fl) : M Fl := fun δ => match mb δ with
  | .ok fl δ' => .ok fl δ'
  | .bad => .bad
  | .exc y δ' => match hit y.cls with
    | some true => if i < δ'.e.length then endAs i (ms y ⟨δ'.e.set i .no, δ'.s⟩) else .bad
    | some false => .exc y δ'
    | none => .bad
theorem RE.hush {K : Frag} {G : Hp} {g : Gh} {H : Hp} {σ : L2.St} {δ : Sx} {o : Option V} (r : RE K G g H σ δ) (i : Nat) : RE K G g H (σ.set i o) ⟨δ.e.set i .no, δ.s⟩ :=
  r.slots (by rw [List.length_set, List.length_set]; exact r.len) fun j d q hd => by
    rcases setGet q with ⟨rfl, z⟩ | ⟨hj, z⟩
    · exact absurd z hd
    · rw [List.getElem?_set_ne (Ne.symm hj)]
      exact r.sl j d z hd
theorem js_tryAs (hs : X.stack = X.env :: X.outer) (hf : X.env.frame = some X.env.locals) (hN : X.N.Nodup) (hi : X.N[i]? = some n) (hln : X.env.kindOf n = some .local) (hc : Names X x c) (tk : Takes X (wX X.K E))
    (hh : ∀ z b C, hit z = some b → clsA X.K z = some C → PySem.W.exmOne X.K (.ref C) c = some b)
    (hb : ∀ (W : XQ) (pn : List (Addr × Obj)) (xe : Value → Shared → Prop), Takes (X.tr pn xe) (wX X.K W) → PassesOwn (model X.prog X.w) X.A X.env xe → PSs (X.tr pn xe) body (tOfS X.K W mb))
    (hsu : ∀ (y : Exn) (C a : Addr) (oe : Obj) (d : Option Addr) (pn : List (Addr × Obj)), clsA X.K y.cls = some C → (y.num = none → d = none) → Zc (.ref C) d oe → (∃ vs, oe.data = .fields vs) → PSs (X.suite a ((a, oe) :: pn)) (b₀ :: suite) (tKS X.K i a y.num d (ms y))) :
    PS X (.Try body [.ExceptHandler (some (.Name x np)) (some n) (b₀ :: suite) pos'] [] [] pos) (tOfS X.K E (mTryAs i hit mb ms)) :=
  pst_imp (ps_try_as hs hf hN hi hln hc tk (tb := fun W => tOfS X.K (xqW X.K W) mb) (ts := fun a cls d B σ H => ∃ y, XR X.K y cls d H ∧ tKS X.K i a y.num d (ms y) B σ H)
    (fun W pn xe t p => hb (xqW X.K W) pn xe (t.imp fun cls d σ H h => wX_W h) p)
    (fun a oe cls d pn hz hv => ⟨fun pins s σ H D I ⟨y, ⟨C, hC, e1, e2⟩, q⟩ => by
      subst e1
      exact (hsu y C a oe d pn hC (fun z => by unfold XD at e2; rw [z] at e2; exact e2) hz hv).run pins s σ H D I q⟩)) fun B σ H ⟨G, g, δ, re, po⟩ => by
    refine ⟨G, g, δ, re, ?_⟩
    unfold mTryAs at po
    cases q : mb δ with
    | ok fl δ1 => rw [q] at po; exact po
    | bad => rw [q] at po; exact po.elim
    | exc y δ1 =>
      rw [q] at po
      dsimp only at po
      intro σ1 g1 H1 e1 r1 cls d xr
      obtain ⟨C, hC, rfl, xd⟩ := xr
      cases hz : hit y.cls with
      | none => rw [hz] at po; exact po.elim
      | some b =>
        rw [hz] at po
        refine ⟨b, hh _ _ _ hz hC, fun hb => ?_, fun hb => ?_⟩
        · subst hb
          dsimp only at po
          intro a ha
          by_cases hlt : i < δ1.e.length
          · rw [if_pos hlt] at po
            obtain ⟨g3, e3, r3, xd3⟩ := (r1.hush (o := some (.ref a)) i).freezeX xd
            refine ⟨y, ⟨C, hC, rfl, xd⟩, List.getElem?_set_self (by rw [r1.len]; exact hlt), G, g3, _, r3, xd3, ?_⟩
            cases qs : ms y ⟨δ1.e.set i .no, δ1.s⟩ with
            | ok fl δ2 =>
              rw [qs] at po
              intro σ2 g2 H2 e2 r2
              have po2 := po (σ2.set i none) g2 H2 (e1.trans (e3.trans e2)) (r2.hush i)
              cases fl with
              | nx => exact fun _ => po2
              | bk => exact fun _ => po2
              | ct => exact fun _ => po2
              | rt c => exact po2
            | exc z δ2 => rw [qs] at po; exact po.elim
            | bad => rw [qs] at po; exact po.elim
          · rw [if_neg hlt] at po; exact po.elim
        · subst hb
          exact ⟨y, ⟨C, hC, rfl, xd⟩, po σ1 g1 H1 e1 r1⟩
end
end Ds
namespace Ds
open PySem PySem.Spec PyProof.Rows L2 Dn
/-- the instance that a suite holds -/
theorem inst_at {X : Cx} {a D : Addr} {oe : Obj} {num : Option Int} {d : Option Addr} {pn pins : List (Addr × Obj)} {σ : L2.St} {H : Hp} {s : Shared} (I : Inv (X.suite a ((a, oe) :: pn)) pins σ H s) (hz : Zc (.ref D) d oe) (hf : ∃ vs, oe.data = .fields vs) (xd : XD num d H) : ∃ od, PySem.W.InstAt s.heap a oe D od := by
  obtain ⟨hget, _⟩ := I.pin (a, oe) (List.mem_append.mpr (.inl List.mem_cons_self))
  obtain ⟨vs, hv⟩ := hf
  cases num with
  | none =>
    have hd : d = none := xd
    subst hd
    obtain ⟨oc, od, oda, osl⟩ := oe
    obtain ⟨h1, h2⟩ := hz
    dsimp only at h1 h2 hv
    subst h1 h2 hv
    exact ⟨none, hget, rfl, rfl, trivial⟩
  | some n =>
    obtain ⟨dx, fs, rfl, hd, _⟩ := xd
    obtain ⟨mA, hns, hr⟩ := (show ObjOk X.prog X.w H s.heap dx (.xd fs) from I.hok dx _ hd)
    obtain ⟨od, ho, hl⟩ := lookIn_ns hns
    exact ⟨some od, hget, hz.1, by unfold PySem.W.notCls; rw [hv] <;> rfl, by rw [hz.2]; exact ho⟩
def rIsEX (K : PySem.W.Frag) (D a : Addr) (num : Option Int) (d : Option Addr) : List V → Hp → VK → Prop := fun xs H Q => ∃ (c : V) (cv : Value) (b : Bool), xs = [.ref a, c] ∧ XD num d H ∧ ClsV c cv ∧ PySem.W.kitOne K (.ref D) cv = some b ∧ Q (.bl b) H
def rIsET (K : PySem.W.Frag) (D a : Addr) (num : Option Int) (d : Option Addr) : List V → Hp → VK → Prop := fun xs H Q => ∃ (tp : Addr) (cs : List V) (us : List Value) (b : Bool), xs = [.ref a, .ref tp] ∧ XD num d H ∧ H tp = some (.tup cs) ∧ Paired ClsV cs us ∧ PySem.W.kitAny K (.ref D) us = some b ∧ Q (.bl b) H
theorem ExcC.cl {K : Frag} {D : Addr} (C : ExcC K D) : (PySem.W.clsIn K D).isSome = true := by
  obtain ⟨cd, hc, _⟩ := PySem.W.any_some C.hd
  rw [hc]; rfl
section
variable {X : Cx} {a D : Addr} {oe : Obj} {num : Option Int} {d : Option Addr} {pn : List (Addr × Obj)}
theorem call_isEX (C : ExcC X.K D) (hz : Zc (.ref D) d oe) (hf : ∃ vs, oe.data = .fields vs) : CallR (X.suite a ((a, oe) :: pn)) (.builtin "isinstance") (rIsEX X.K D a num d) := by
  intro pins s σ H xs us Q I r h
  obtain ⟨c, cv, b, rfl, xd, k, e, q⟩ := h
  obtain ⟨u1, u2, rfl, r1, r2⟩ := vals2 r
  cases (show u1 = Value.ref a from r1)
  have e2 := k.eq r2
  subst e2
  obtain ⟨od, J⟩ := inst_at I hz hf xd
  exact PySem.W.kia_one (PySem.W.kitx_exc (ExcC.cl C) C.hg C.hk C.hs C.ha C.hn C.ht C.hm) I.kIn J e (fun z => nomatch z) fun tk => ⟨.bl b, H, I.kept (t' := tk) fun _ _ z => z, rfl, q⟩
theorem call_isET (C : ExcC X.K D) (hz : Zc (.ref D) d oe) (hf : ∃ vs, oe.data = .fields vs) : CallR (X.suite a ((a, oe) :: pn)) (.builtin "isinstance") (rIsET X.K D a num d) := by
  intro pins s σ H xs us Q I r h
  obtain ⟨tp, cs, ws, b, rfl, xd, hT, k, e, q⟩ := h
  obtain ⟨u1, u2, rfl, r1, r2⟩ := vals2 r
  cases (show u2 = Value.ref tp from r2)
  cases (show u1 = Value.ref a from r1)
  obtain ⟨_, its, rv, o, h1, h2, n, h3⟩ := (show ObjOk X.prog X.w H s.heap tp (.tup cs) from I.hok tp _ hT)
  have e3 := ClsV.all k rv
  subst e3
  obtain ⟨oc, od, dt, sl⟩ := o
  simp only at h2 h3
  subst h2 h3
  obtain ⟨od2, J⟩ := inst_at I hz hf xd
  exact PySem.W.kia_tup (PySem.W.kitx_exc (ExcC.cl C) C.hg C.hk C.hs C.ha C.hn C.ht C.hm) I.kIn J h1 e (fun z => nomatch z) fun tk => ⟨.bl b, H, I.kept (t' := tk) fun _ _ z => z, rfl, q⟩
def mIsB (o : Option Bool) : M Dn.D := mOpt (o.map PyData.bool)
variable {i : Nat} {n : Str} {p p1 p2 pos : Pos} {cv : V} {cu : Value} {ec : Expr} {es : List Expr} {t : TA} {cs : List V} {us : List Value} {o : Option Bool} {xc : Nat}
theorem jk_isE (C : ExcC X.K D) (hz : Zc (.ref D) d oe) (hf : ∃ vs, oe.data = .fields vs) (hg : Gl X "isinstance") (hm : X.mg "isinstance" = none) (hN : X.N[i]? = some n) (hv : Vis X.env.scope n) (hc : PE (X.suite a ((a, oe) :: pn)) ec (tC cv)) (hk : ClsV cv cu) (ho : ∀ b, o = some b → PySem.W.kitOne X.K (.ref D) cu = some b)
    (hd : (n == ("__debug__" : Str)) = false := by decide) (hcd : (n == ("__classdict__" : Str)) = false := by decide)
    (he : starEach [.Name n p1, ec] X.env = (false, eval (.Name n p1) X.env) :: starEach [ec] X.env := by rfl) (he2 : starEach [ec] X.env = (false, eval ec X.env) :: starEach [] X.env := by rfl) (hpl : (backTo pos (starEach [ec] X.env)).any (·.1) = false := by rfl) :
    PE (X.suite a ((a, oe) :: pn)) (.Call (.Name "isinstance" p) [.Name n p1, ec] [] pos) (tKD X.K i a num d (mIsB o)) :=
  pe_imp (pe_callB (call_isEX (num := num) C hz hf) hg hm (by decide +kernel) (pa_cons (pe_var (X := X.suite a ((a, oe) :: pn)) hN hv hd hcd) (pa_cons hc pa_nil he2) he) (by decide) (by decide) he hpl) fun σ H Q ⟨hs, G, g, δ, re, xd, po⟩ => by
    obtain ⟨c, hc2, po2⟩ := Post.opt po
    obtain ⟨b, hb, rfl⟩ := Option.map_eq_some_iff.mp hc2
    exact ⟨.ref a, hs, cv, cu, b, rfl, xd.ex re.ex, hk, ho b hb, Post.of po2 re _ (.bl b)⟩
theorem jk_isET (C : ExcC X.K D) (hz : Zc (.ref D) d oe) (hf : ∃ vs, oe.data = .fields vs) (hg : Gl X "isinstance") (hm : X.mg "isinstance" = none) (hN : X.N[i]? = some n) (hv : Vis X.env.scope n) (hc : PA (X.suite a ((a, oe) :: pn)) es t) (ht : ∀ σ H R, R cs H → t σ H R) (hcl : cs.length ≤ sizeLine) (hk : Paired ClsV cs us) (ho : ∀ b, o = some b → PySem.W.kitAny X.K (.ref D) us = some b)
    (hd : (n == ("__debug__" : Str)) = false := by decide) (hcd : (n == ("__classdict__" : Str)) = false := by decide)
    (he : starEach [.Name n p1, .Tuple es xc p2] X.env = (false, eval (.Name n p1) X.env) :: starEach [.Tuple es xc p2] X.env := by rfl) (he2 : starEach [.Tuple es xc p2] X.env = (false, eval (.Tuple es xc p2) X.env) :: starEach [] X.env := by rfl) (hpl : (backTo pos (starEach [.Tuple es xc p2] X.env)).any (·.1) = false := by rfl) :
    PE (X.suite a ((a, oe) :: pn)) (.Call (.Name "isinstance" p) [.Name n p1, .Tuple es xc p2] [] pos) (tKD X.K i a num d (mIsB o)) :=
  pe_imp (pe_callB (call_isET (num := num) C hz hf) hg hm (by decide +kernel) (pa_cons (pe_var (X := X.suite a ((a, oe) :: pn)) hN hv hd hcd) (pa_cons (pe_tup hc) pa_nil he2) he) (by decide) (by decide) he hpl) fun σ H Q ⟨hs, G, g, δ, re, xd, po⟩ => by
    obtain ⟨c, hc2, po2⟩ := Post.opt po
    obtain ⟨b, hb, rfl⟩ := Option.map_eq_some_iff.mp hc2
    refine ⟨.ref a, hs, ht σ H _ ⟨hcl, fun q hq => ?_⟩⟩
    exact ⟨q, cs, us, b, rfl, xd.ex (re.ex.trans (ex_new hq)), upd_same, hk, ho b hb, Post.grow po2 re (Grw.new re.ex hq) _ (.bl b)⟩
/-- e.number -/
def mNum (num : Option Int) : M Dn.D := mOpt (num.map PyData.int)
theorem jk_num (T : XfC X.K D) (hno : PySem.W.findIn X.K (.ref D) "number" = some none) (hz : Zc (.ref D) d oe) (hf : ∃ vs, oe.data = .fields vs) (hN : X.N[i]? = some n) (hv : Vis X.env.scope n)
    (hd : (n == ("__debug__" : Str)) = false := by decide) (hcd : (n == ("__classdict__" : Str)) = false := by decide) (hb : attributeBase (.Name n p1) "number" X.env (eval (.Name n p1) X.env) = eval (.Name n p1) X.env := by rfl) :
    PE (X.suite a ((a, oe) :: pn)) (.Attribute (.Name n p1) "number" pos) (tKD X.K i a num d (mNum num)) :=
  pe_imp (pe_xf T hno hz hf (pe_var (X := X.suite a ((a, oe) :: pn)) hN hv hd hcd) hb) fun σ H Q ⟨hs, G, g, δ, re, xd, po⟩ => by
    obtain ⟨c, hc2, po2⟩ := Post.opt po
    obtain ⟨b, hb, rfl⟩ := Option.map_eq_some_iff.mp hc2
    subst hb
    obtain ⟨dx, fs, h1, h2, h3⟩ := xd
    exact ⟨.ref a, hs, rfl, rfl, dx, fs, .int b, h1, re.ex _ _ h2, h3, Post.of po2 re _ (.int b)⟩
end
end Ds
namespace Ds
open PySem PySem.Spec PyProof.Rows L2 Dn
/-- what the class B says, so that B.__init__ is ValueError's -/
structure BaC (K : Frag) (B : Addr) : Prop where
  g : PySem.W.specialIn K (.ref B) "__getattribute__" = some (some (.builtin "type.__getattribute__"))
  r : PySem.W.readsIn K B (.type "type") = true
  i : PySem.W.findCls K (.ref B) (.type "type") "__init__" = some (.val (.builtin "ValueError.__init__"))
section
variable {X : Cx} {o e : Expr} {es : List Expr} {to te : TE} {ta : TA} {f bx : Str} {p p' p1 p2 pos : Pos} {B : Addr}
theorem pe_binit {pl : Sem Bool} (hg : Gl X bx) (hm : X.mg bx = some (.ref B)) (b : BaC X.K B) (ha : PA X (e :: es) ta) (hdb : (bx == ("__debug__" : Str)) = false := by decide)
    (hc : eval (.Call (.Attribute (.Name bx p1) "__init__" p2) (e :: es) [] pos) X.env = (do
      let ov ← eval (.Name bx p1) X.env
      standAt p2.atName
      let (f, first) ← holding [ov] (getMethod ov "__init__" pl)
      callWith pos f first (backTo pos (starEach (e :: es) X.env)) (backToKw pos (keywordEach [] X.env))) := by rfl)
    (he : starEach (e :: es) X.env = (false, eval e X.env) :: starEach es X.env := by rfl) (hpl : (backTo pos (starEach es X.env)).any (·.1) = false := by rfl) :
    PE X (.Call (.Attribute (.Name bx p1) "__init__" p2) (e :: es) [] pos) (tVeI X.K ta) := by
  refine ⟨fun pins s σ H Q I h => ?_⟩
  refine PySem.W.methodCall_KW (ld_glob I hg hm ?_ hdb) hc
  refine PySem.W.method_cls I.kIn b.g (PySem.W.cls_value I.kIn b.r b.i (by decide +kernel) ?_)
  show wpAny _ _ (callWith pos (Value.builtin "ValueError.__init__") [] (backTo pos (starEach (e :: es) X.env)) []) _ _ _
  refine PyProof.Rows.callWith_method1 (thn (ha.run pos pins _ σ H _ (I.tok _) h) fun us s1 ⟨vs, H1, I1, r1, a, C, ws, ev, hl, T, ea, q⟩ => ?_) he hpl
  subst ev
  cases r1 with
  | @cons _ u0 _ ur ra rw' =>
    obtain rfl : u0 = Value.ref a := ra
    have hlen : ur.length ≤ sizeLine := by
      rw [← Paired.length rw', sizeLine_eq]
      omega
    exact oinit_ok T I1 ea hlen fun s' J => ⟨.non, H1, J, rfl, q⟩
end
/-- the promise of such an __init__ -/
def spXi (K : Frag) (f : Str) : Sp := fun vs H Q _ => ∃ (a C : Addr) (v : V), vs = [.ref a, v] ∧ OexC K C ∧ PySem.W.findIn K (.ref C) f = some none ∧ H a = some (exo a C none) ∧
  ∀ dx, H dx = none → dx ≠ a → Q .non (upd (upd H dx (exd dx [(f, v)])) a (exo a C (some dx)))
section
variable {P : Program} {w : World} {K : Frag} {mg : Str → Option Value} {base : Heap}
theorem fnXi {x qual m f : Str} {st : Stmt} {fI : Addr} {fd : FuncData} {N pr : List Str} {k : Nat} (F : Fun K x qual st fI fd) (S : FnScope N pr (defScope st)) (hpr : pr.length = 2) (hN : N.length = 2)
    (hb : ∀ (cdv : Value) (A : Around) (outer : List PySem.Env) (s : Shared) (H : Hp) (E : XK), PSs (cxOf CX0 P w K mg base N qual (defScope st) fI cdv A outer s H E).nox (defBody st)
      (tSeq (tDrop (tVeI K (tCons (tVar 0) (tCons (tC (.str m)) tNil)))) (tOst K f (tVar 0) (tVar 1)))) : FnOk P w K mg base CX0 (k + 1) fI fd pr (spXi K f) := by
  refine F.ok S (fun vs H Q E h => by obtain ⟨a, C, v, rfl, _⟩ := h; rw [hpr]; rfl) fun cdv A outer s H vs Q E hr h => ⟨_, hb cdv A outer s H E, ?_⟩
  obtain ⟨a, C, v, rfl, T, hno, ea, k1⟩ := h
  have e0 : L2.start N [.ref a, v] = [some (.ref a), some v] := by unfold L2.start; rw [hN]; rfl
  rw [e0]
  refine ⟨.ref a, rfl, a, C, [.str m], rfl, by show 1 ≤ 1000; omega, T, ea, ?_⟩
  exact ⟨v, rfl, .ref a, rfl, a, C, rfl, T, hno, .inl ⟨ea, fun dx n ne => k1 dx n ne⟩⟩
end
/-- raise C(n) -/
def mRaiseN (x : Str) (m : M D) : M Fl := mBind m fun d δ => match d with
  | .int n => .exc ⟨x, some n⟩ δ
  | _ => .bad
section
variable {X : Cx} {E : XQ} {x : Str} {C fI : Addr} {k : Nat} {fd : FuncData} {pr : List Str} {e : Expr} {m : M D} {p pos pos' : Pos}
theorem js_raiseN (T : OexC X.K C) (iC : PySem.W.findIn X.K (.ref C) "__init__" = some (some (.ref fI))) (tI : PySem.W.typeIn X.K (.ref fI) = some (.type "function")) (hno : PySem.W.findIn X.K (.ref C) "number" = some none)
    (F1 : FnOk X.prog X.w X.K X.mg X.base CX0 k fI fd pr (spXi X.K "number")) (hr : Room (k + 1) X.A) (hb : Binds X.K fd pr []) (hg : Gl X x) (hm : X.mg x = some (.ref C)) (hcl : clsA X.K x = some C) (hc : X.calm = true) (tk : Takes X (wX X.K E)) (h : PE X e (tOf X.K E m))
    (hdb : (x == ("__debug__" : Str)) = false := by decide) (he : starEach [e] X.env = (false, eval e X.env) :: starEach [] X.env := by rfl) (hpl : (backTo pos (starEach [] X.env)).any (·.1) = false := by rfl) :
    PS X (.Raise (some (.Call (.Name x p) [e] [] pos)) none pos') (tOfS X.K E (mRaiseN x m)) :=
  pst_imp (ps_raise hc tk (pmk_oex T iC tI F1 hr hb .nil pass0 hg hm (pa_cons h pa_nil he) hdb he hpl)) fun B σ H ⟨G, g, δ, re, po⟩ => by
    refine tOf.stepS re po fun v d g1 H1 δ1 e1 re1 r1 po1 => ?_
    cases r1 with
    | int n =>
      refine ⟨by show 1 ≤ 1000; omega, fun a ha => ⟨a, C, .int n, rfl, T, hno, upd_same, fun dx hdx hne => ?_⟩⟩
      have hdx1 : H1 dx = none := by rw [upd_ne hne] at hdx; exact hdx
      refine ⟨rfl, dx, [("number", .int n)], upd_same, by rw [upd_ne hne, upd_same], hdx1, ?_⟩
      have eH : upd (del (upd (upd (upd H1 a (exo a C none)) dx (exd dx [(("number" : Str), V.int n)])) a (exo a C (some dx))) a) dx (.xd [(("number" : Str), V.int n)]) = upd H1 dx (.xd [(("number" : Str), V.int n)]) := by
        funext b
        by_cases hb : b = dx
        · rw [hb, upd_same, upd_same]
        · rw [upd_ne hb, upd_ne hb]
          by_cases hba : b = a
          · rw [hba, del_same, ha]
          · rw [del_ne hba, upd_ne hba, upd_ne hb, upd_ne hba]
      rw [eH]
      refine ⟨⟨x, some n⟩, ⟨C, hcl, rfl, dx, _, rfl, upd_same, by rfl⟩, po1 σ g1 _ (Le.refl _) (re1.newH (ex_new hdx1))⟩
    | _ => exact po1.elim
end
end Ds
namespace Ds
open PySem PySem.Spec PyProof.Rows L2 Dn
/-- nothing leaves where nothing is let out -/
theorem takesNo {X : Cx} : Takes X (wX X.K noX) := takes0.imp fun c d σ H h => by
  obtain ⟨y, _, z⟩ := h
  exact z
section
variable {X : Cx} {i : Nat} {a C Cz : Addr} {oe : Obj} {d : Option Addr} {pn : List (Addr × Obj)} {body : List Stmt} {y : Exn} {z : Str}
/-- a suite's run, class by class -/
def msIf (z : Str) (m1 : Option Int → M Fl) (m2 : Exn → M Fl) : Exn → M Fl := fun y => if y.cls = z then m1 y.num else m2 y
def msBad : Exn → M Fl := fun _ _ => .bad
theorem suite_if {m1 : Option Int → M Fl} {m2 : Exn → M Fl} (hcl : clsA X.K z = some Cz) (hC : clsA X.K y.cls = some C) (hz : Zc (.ref C) d oe) (h1 : Zc (.ref Cz) d oe → PSs (X.suite a ((a, oe) :: pn)) body (tKS X.K i a y.num d (m1 y.num))) (h2 : PSs (X.suite a ((a, oe) :: pn)) body (tKS X.K i a y.num d (m2 y))) :
    PSs (X.suite a ((a, oe) :: pn)) body (tKS X.K i a y.num d (msIf z m1 m2 y)) := by
  unfold msIf
  split
  · rename_i hy
    rw [hy, hcl] at hC
    cases hC
    exact h1 hz
  · exact h2
theorem suite_bad : PSs (X.suite a ((a, oe) :: pn)) body (tKS X.K i a y.num d (msBad y)) := ⟨fun pins s σ H D I h => by
  obtain ⟨_, _, _, _, _, _, po⟩ := h
  exact po.elim⟩
end
/-- the table of what a clause catches: the classes named -/
def hitOf (l : List (Str × Bool)) (z : Str) : Option Bool := match l with
  | [] => none
  | (x, b) :: r => if x = z then some b else hitOf r z
def hitB (K : Frag) (c : Value) (l : List (Str × Bool)) : Bool := l.all fun p => match clsA K p.1 with
  | some C => decide (PySem.W.exmOne K (.ref C) c = some p.2)
  | none => false
theorem hitB_nil {K : Frag} {c : Value} : hitB K c [] = true := rfl
theorem hitB_cons {K : Frag} {c : Value} {z : Str} {b : Bool} {r : List (Str × Bool)} {C : Addr} (h1 : clsA K z = some C) (h2 : PySem.W.exmOne K (.ref C) c = some b) (h3 : hitB K c r = true) : hitB K c ((z, b) :: r) = true := by
  unfold hitB
  rw [List.all_cons, Bool.and_eq_true]
  refine ⟨?_, h3⟩
  dsimp only
  rw [h1]
  exact decide_eq_true h2
theorem hit_ok {K : Frag} {c : Value} {l : List (Str × Bool)} (h : hitB K c l = true) : ∀ z b C, hitOf l z = some b → clsA K z = some C → PySem.W.exmOne K (.ref C) c = some b := by
  intro z b C
  induction l with
  | nil => intro h1; cases h1
  | cons p r ih =>
    obtain ⟨x, k⟩ := p
    intro h1 h2
    unfold hitB at h
    rw [List.all_cons, Bool.and_eq_true] at h
    obtain ⟨q1, q2⟩ := h
    unfold hitOf at h1
    split at h1
    · rename_i hx
      cases h1
      subst hx
      dsimp only at q1
      rw [h2] at q1
      exact of_decide_eq_true q1
    · exact ih q2 h1 h2
end Ds
namespace Ds
open PySem PySem.Spec PyProof.Rows L2 Dn
abbrev Ev := List Cl
abbrev St := List Ob
/-- a run: what holds behind it, Y where it raises -/
@[irreducible] def RunX {α : Type} (Y : Exn → Ev → St → Prop) (m : M α) (e : Ev) (s : St) (Q : α → Ev → St → Prop) : Prop := match m ⟨e, s⟩ with
  | .ok a x => Q a x.e x.s
  | .exc y x => Y y x.e x.s
  | .bad => False
@[irreducible] def FRunX (Y : Exn → St → Prop) (F : Fn) (as : Ev) (s : St) (Q : Cl → St → Prop) : Prop := match F as s with
  | .ok c s' => Q c s'
  | .exc y s' => Y y s'
  | .bad => False
def NoY : Exn → Ev → St → Prop := fun _ _ _ => False
def NoF : Exn → St → Prop := fun _ _ => False
abbrev Run {α : Type} (m : M α) (e : Ev) (s : St) (Q : α → Ev → St → Prop) : Prop := RunX NoY m e s Q
abbrev FRun (F : Fn) (as : Ev) (s : St) (Q : Cl → St → Prop) : Prop := FRunX NoF F as s Q
section
variable {α β : Type} {e : Ev} {s : St} {m : M D} {Y : Exn → Ev → St → Prop} {YF : Exn → St → Prop}
theorem Run.i {m : M α} {Q : α → Ev → St → Prop} (h : match m ⟨e, s⟩ with
  | .ok a x => Q a x.e x.s
  | .exc y x => Y y x.e x.s
  | .bad => False) : RunX Y m e s Q := by unfold RunX; exact h
theorem run_pure {a : α} {Q : α → Ev → St → Prop} (h : Q a e s) : RunX Y (mPure a) e s Q := Run.i h
theorem RunX.mono {m : M α} {Q Q' : α → Ev → St → Prop} (h : RunX Y m e s Q) (k : ∀ a e' s', Q a e' s' → Q' a e' s') : RunX Y m e s Q' := by
  unfold RunX at *
  cases q : m ⟨e, s⟩ with
  | ok a x => rw [q] at h; exact k a x.e x.s h
  | exc y x => rw [q] at h; exact h
  | bad => rw [q] at h; exact h
theorem FRunX.mono {F : Fn} {as : Ev} {Q Q' : Cl → St → Prop} (h : FRunX YF F as s Q) (k : ∀ a s', Q a s' → Q' a s') : FRunX YF F as s Q' := by
  unfold FRunX at *
  cases q : F as s with
  | ok a x => rw [q] at h; exact k a x h
  | exc y x => rw [q] at h; exact h
  | bad => rw [q] at h; exact h
theorem FRunX.to {F : Fn} {as : Ev} {Q : Cl → St → Prop} (h : FRunX NoF F as s Q) : ∃ c s', F as s = .ok c s' ∧ Q c s' := by
  unfold FRunX at h
  cases q : F as s with
  | ok a x => rw [q] at h; exact ⟨a, x, rfl, h⟩
  | exc y x => rw [q] at h; exact h.elim
  | bad => rw [q] at h; exact h.elim
theorem run_bind {m : M α} {f : α → M β} {Q : β → Ev → St → Prop} (h : RunX Y m e s fun a e' s' => RunX Y (f a) e' s' Q) : RunX Y (mBind m f) e s Q := by
  unfold RunX at *
  unfold mBind
  cases q : m ⟨e, s⟩ with
  | ok a x => rw [q] at h; exact h
  | exc y x => rw [q] at h; exact h
  | bad => rw [q] at h; exact h
theorem run_opt {o : Option α} {Q : α → Ev → St → Prop} (h : ∃ a, o = some a ∧ Q a e s) : RunX Y (mOpt o) e s Q := by
  obtain ⟨a, h1, h2⟩ := h
  subst h1
  exact Run.i h2
theorem run_optB {o : Option α} {f : α → M β} {Q : β → Ev → St → Prop} (h : ∃ a, o = some a ∧ RunX Y (f a) e s Q) : RunX Y (mBind (mOpt o) f) e s Q := run_bind (run_opt h)
theorem run_var {i : Nat} {d : D} {Q : D → Ev → St → Prop} (h : e[i]? = some (Cl.sh d)) (k : Q d e s) : RunX Y (mVar i) e s Q := by
  unfold RunX mVar
  dsimp only
  rw [h]
  exact k
theorem run_lv {i l : Nat} {Q : Nat → Ev → St → Prop} (h : e[i]? = some (Cl.lo l)) (k : Q l e s) : RunX Y (mLV i) e s Q := by
  unfold RunX mLV
  dsimp only
  rw [h]
  exact k
theorem run_clD {i : Nat} {d : D} {Q : Cl → Ev → St → Prop} (h : e[i]? = some (Cl.sh d)) (k : Q (.sh d) e s) : RunX Y (mCl i) e s Q := by
  unfold RunX mCl
  dsimp only
  rw [h]
  exact k
theorem run_clL {i l : Nat} {Q : Cl → Ev → St → Prop} (h : e[i]? = some (Cl.lo l)) (k : Q (.lo l) e s) : RunX Y (mCl i) e s Q := by
  unfold RunX mCl
  dsimp only
  rw [h]
  exact k
theorem run_sh {Q : Cl → Ev → St → Prop} (h : RunX Y m e s fun d e' s' => Q (.sh d) e' s') : RunX Y (mSh m) e s Q := run_bind (h.mono fun _ _ _ h => run_pure h)
theorem run_lo {m : M Nat} {Q : Cl → Ev → St → Prop} (h : RunX Y m e s fun d e' s' => Q (.lo d) e' s') : RunX Y (mLo m) e s Q := run_bind (h.mono fun _ _ _ h => run_pure h)
theorem run_d {m : M Cl} {Q : D → Ev → St → Prop} (h : RunX Y m e s fun c e' s' => ∃ d, toD c = some d ∧ Q d e' s') : RunX Y (mD m) e s Q := run_bind (h.mono fun _ _ _ h => run_opt h)
theorem run_l {m : M Cl} {Q : Nat → Ev → St → Prop} (h : RunX Y m e s fun c e' s' => ∃ d, toL c = some d ∧ Q d e' s') : RunX Y (mL m) e s Q := run_bind (h.mono fun _ _ _ h => run_opt h)
theorem run_c {d : D} {Q : D → Ev → St → Prop} (k : Q d e s) : RunX Y (mC d) e s Q := run_pure k
theorem run_bin {g : D → D → Option D} {ma mb : M D} {Q : D → Ev → St → Prop} (h : RunX Y ma e s fun d e1 s1 => RunX Y mb e1 s1 fun c e2 s2 => ∃ r, g d c = some r ∧ Q r e2 s2) : RunX Y (mBin g ma mb) e s Q :=
  run_bind (h.mono fun _ _ _ h => run_bind (h.mono fun _ _ _ h => run_opt h))
theorem run_test {Q : Bool → Ev → St → Prop} (h : RunX Y m e s fun d e1 s1 => ∃ b, toB d = some b ∧ Q b e1 s1) : RunX Y (mTest m) e s Q := run_bind (h.mono fun _ _ _ h => run_opt h)
theorem run_chain {g g' : D → D → Option D} {ma mb mc : M D} {Q : D → Ev → St → Prop} (h : RunX Y ma e s fun d e1 s1 => RunX Y mb e1 s1 fun c e2 s2 => ∃ r, g d c = some r ∧ ∃ b, toB r = some b ∧ (b = true → RunX Y mc e2 s2 fun f e3 s3 => ∃ r, g' c f = some r ∧ Q r e3 s3) ∧ (b = false → Q (.bool false) e2 s2)) : RunX Y (mChain g g' ma mb mc) e s Q :=
  run_bind (h.mono fun d _ _ h => run_bind (h.mono fun c _ _ ⟨r, h1, b, h2, h3, h4⟩ => run_optB ⟨b, by rw [h1]; exact h2, by
    cases b with
    | true => exact run_bind ((h3 rfl).mono fun _ _ _ h => run_opt h)
    | false => exact run_pure (h4 rfl)⟩))
theorem run_ag0 {Q : List Cl → Ev → St → Prop} (k : Q [] e s) : RunX Y (evA []) e s Q := Run.i k
theorem run_agC {m : M Cl} {as : List (M Cl)} {Q : List Cl → Ev → St → Prop} (h : RunX Y m e s fun c e1 s1 => RunX Y (evA as) e1 s1 fun cs e2 s2 => Q (c :: cs) e2 s2) : RunX Y (evA (m :: as)) e s Q := run_bind (h.mono fun _ _ _ h => run_bind (h.mono fun _ _ _ h => run_pure h))
theorem run_callB {g : List D → Option D} {as : List (M Cl)} {Q : D → Ev → St → Prop} (h : RunX Y (evA as) e s fun cs e1 s1 => ∃ ds, shL cs = some ds ∧ ∃ c, g ds = some c ∧ Q c e1 s1) : RunX Y (mCallB g as) e s Q :=
  run_bind (h.mono fun cs _ _ ⟨ds, h1, c, h2, h3⟩ => run_opt ⟨c, by rw [h1]; exact h2, h3⟩)
theorem run_callC {g : List D → Option D} {as : List (M Cl)} {Q : D → Ev → St → Prop} (h : RunX Y (evA as) e s fun cs e1 s1 => ∃ ds, snaps s1 cs = some ds ∧ ∃ c, g ds = some c ∧ flatD c = true ∧ Q c e1 s1) : RunX Y (mCallC g as) e s Q :=
  run_bind (h.mono fun cs _ _ ⟨ds, h1, c, h2, h3, h4⟩ => Run.i (by
    dsimp only
    rw [h1, Option.bind_some, h2]
    dsimp only
    rw [if_pos h3]
    exact h4))
theorem run_call {F : Fn} {as : List (M Cl)} {Q : Cl → Ev → St → Prop} (h : RunX Y (evA as) e s fun cs e1 s1 => FRunX NoF F cs s1 fun c s2 => Q c e1 s2) : RunX Y (mCall F as) e s Q :=
  run_bind (h.mono fun cs e1 s1 h => Run.i (by
    obtain ⟨c, s2, h1, h2⟩ := h.to
    dsimp only
    rw [h1]
    exact h2))
theorem run_ixC {m : M D} {mc : M Cl} {Q : Cl → Ev → St → Prop} (h : RunX Y mc e s fun c e1 s1 => RunX Y m e1 s1 fun i e2 s2 => ∃ k, ixC s2 c i = some k ∧ Q k e2 s2) : RunX Y (mIxC mc m) e s Q :=
  run_bind (h.mono fun c e1 s1 h => run_bind (h.mono fun i e2 s2 ⟨k, h1, h2⟩ => Run.i (by
    dsimp only
    rw [h1]
    exact h2)))
theorem run_slC {mc : M Cl} {ml mh : M (Option Int)} {Q : D → Ev → St → Prop} (h : RunX Y mc e s fun c e1 s1 => RunX Y ml e1 s1 fun l e2 s2 => RunX Y mh e2 s2 fun u e3 s3 => ∃ d, snap s3 c = some d ∧ ∃ r, dSl d l u = some r ∧ Q r e3 s3) : RunX Y (mSlC mc ml mh) e s Q :=
  run_bind (h.mono fun c _ _ h => run_bind (h.mono fun l _ _ h => run_bind (h.mono fun u _ _ ⟨d, h1, r, h2, h3⟩ => Run.i (by
    dsimp only
    rw [h1]
    dsimp only
    rw [h2]
    exact h3))))
theorem run_sl {ml mh : M (Option Int)} {Q : D → Ev → St → Prop} (h : RunX Y m e s fun d e1 s1 => RunX Y ml e1 s1 fun l e2 s2 => RunX Y mh e2 s2 fun u e3 s3 => ∃ c, dSl d l u = some c ∧ Q c e3 s3) : RunX Y (mSl m ml mh) e s Q := run_bind (h.mono fun _ _ _ h => run_bind (h.mono fun _ _ _ h => run_bind (h.mono fun _ _ _ h => run_opt h)))
theorem run_part {Q : Option Int → Ev → St → Prop} (h : RunX Y m e s fun d e1 s1 => ∃ c, toI d = some c ∧ Q c e1 s1) : RunX Y (mPart m) e s Q := run_bind (h.mono fun _ _ _ h => run_opt h)
theorem run_noPart {Q : Option Int → Ev → St → Prop} (h : Q none e s) : RunX Y mNoPart e s Q := run_pure h
theorem run_isi {Tn : String} {Q : D → Ev → St → Prop} (h : RunX Y m e s fun d e1 s1 => ∃ b, kitB (tyD d) Tn = some b ∧ Q (.bool b) e1 s1) : RunX Y (mIsi Tn m) e s Q :=
  run_bind (h.mono fun d _ _ ⟨b, h1, h2⟩ => run_opt ⟨_, by rw [h1]; rfl, h2⟩)
theorem run_m1 {g : Str → List D → Option D} {mo : M D} {Q : D → Ev → St → Prop} (h : RunX Y mo e s fun d e1 s1 => ∃ z, toS d = some z ∧ RunX Y m e1 s1 fun a e2 s2 => ∃ c, g z [a] = some c ∧ Q c e2 s2) : RunX Y (mM1 g mo m) e s Q :=
  run_bind (h.mono fun _ _ _ ⟨z, h1, h2⟩ => run_optB ⟨z, h1, run_bind (h2.mono fun _ _ _ h => run_opt h)⟩)
theorem run_m1C {g : Str → List D → Option D} {mo : M D} {mc : M Cl} {Q : D → Ev → St → Prop} (h : RunX Y mo e s fun d e1 s1 => ∃ z, toS d = some z ∧ RunX Y mc e1 s1 fun c e2 s2 => ∃ d, snap s2 c = some d ∧ ∃ r, g z [d] = some r ∧ flatD r = true ∧ Q r e2 s2) : RunX Y (mM1C g mo mc) e s Q :=
  run_bind (h.mono fun _ _ _ ⟨z, h1, h2⟩ => run_optB ⟨z, h1, run_bind (h2.mono fun c _ _ ⟨d, h3, r, h4, h5, h6⟩ => Run.i (by
    dsimp only
    rw [h3, Option.bind_some, h4]
    dsimp only
    rw [if_pos h5]
    exact h6))⟩)
theorem run_binC {g : D → D → Option D} {mc mk : M Cl} {Q : D → Ev → St → Prop} (h : RunX Y mc e s fun c e1 s1 => RunX Y mk e1 s1 fun k e2 s2 => ∃ a b, snap s2 c = some a ∧ snap s2 k = some b ∧ ∃ r, g a b = some r ∧ flatD r = true ∧ Q r e2 s2) : RunX Y (mBinC g mc mk) e s Q :=
  run_bind (h.mono fun _ _ _ h => run_bind (h.mono fun _ _ _ ⟨a, b, h1, h2, r, h3, h4, h5⟩ => Run.i (by
    dsimp only
    rw [h1, h2, Option.bind_some, Option.bind_some, h3]
    dsimp only
    rw [if_pos h4]
    exact h5)))
theorem run_shs {as : List (M Cl)} {Q : List D → Ev → St → Prop} (h : RunX Y (evA as) e s fun cs e1 s1 => ∃ ds, shL cs = some ds ∧ ds.length ≤ sizeLine ∧ Q ds e1 s1) : RunX Y (mShs as) e s Q :=
  run_bind (h.mono fun gs _ _ ⟨ds, h1, h2, h3⟩ => run_opt ⟨ds, by rw [h1]; simp [Option.filter, h2], h3⟩)
theorem run_tup {as : List (M Cl)} {Q : D → Ev → St → Prop} (h : RunX Y (evA as) e s fun cs e1 s1 => ∃ ds, shL cs = some ds ∧ ds.length ≤ sizeLine ∧ Q (.tuple ds) e1 s1) : RunX Y (mTup as) e s Q := run_bind (run_shs (h.mono fun _ _ _ ⟨ds, a, b, c⟩ => ⟨ds, a, b, run_pure c⟩))
theorem run_lst {as : List (M Cl)} {Q : D → Ev → St → Prop} (h : RunX Y (evA as) e s fun cs e1 s1 => ∃ ds, shL cs = some ds ∧ ds.length ≤ sizeLine ∧ Q (.list ds) e1 s1) : RunX Y (mLst as) e s Q := run_bind (run_shs (h.mono fun _ _ _ ⟨ds, a, b, c⟩ => ⟨ds, a, b, run_pure c⟩))
theorem run_lsO {as : List (M Cl)} {Q : List Cl → Ev → St → Prop} (h : RunX Y (evA as) e s fun cs e1 s1 => cs.length ≤ sizeLine ∧ Q cs e1 s1) : RunX Y (mLsO as) e s Q := run_bind (h.mono fun cs _ _ ⟨a, b⟩ => run_opt ⟨cs, if_pos a, b⟩)
theorem run_fr {m : M (List Cl)} {Q : D → Ev → St → Prop} (h : RunX Y m e s fun cs e1 s1 => ∃ ds, shL cs = some ds ∧ Q (.list ds) e1 s1) : RunX Y (mFr m) e s Q := run_bind (h.mono fun cs _ _ ⟨ds, a, b⟩ => run_opt ⟨_, by rw [a]; rfl, b⟩)
theorem run_new {m : M (List Cl)} {Q : Nat → Ev → St → Prop} (h : RunX Y m e s fun cs e1 s1 => Q s1.length e1 (s1 ++ [.lst cs])) : RunX Y (mNew m) e s Q := run_bind (h.mono fun cs _ _ h => Run.i h)
theorem run_seal {m : M Nat} {Q : D → Ev → St → Prop} (h : RunX Y m e s fun l e1 s1 => ∃ xs ds, s1[l]? = some (.lst xs) ∧ shL xs = some ds ∧ Q (.list ds) e1 (s1.set l .gone)) : RunX Y (mSeal m) e s Q :=
  run_bind (h.mono fun l _ _ ⟨xs, ds, h1, h2, h3⟩ => Run.i (by
    dsimp only
    rw [h1]
    dsimp only
    rw [h2]
    exact h3))
theorem run_listOf {mc : M Cl} {Q : List Cl → Ev → St → Prop} (h : RunX Y mc e s fun c e1 s1 => ∃ d xs, snap s1 c = some d ∧ itemsD d = some xs ∧ Q (xs.map Cl.sh) e1 s1) : RunX Y (mListOf mc) e s Q :=
  run_bind (run_agC (h.mono fun c _ s1 ⟨d, xs, h1, h2, h3⟩ => run_ag0 (Run.i (by
    dsimp only
    have : snaps s1 [c] = some [d] := by unfold snaps; rw [h1]; rfl
    rw [this]
    dsimp only
    rw [h2]
    exact h3))))
theorem run_tupOf {mc : M Cl} {Q : D → Ev → St → Prop} (h : RunX Y mc e s fun c e1 s1 => ∃ d xs, snap s1 c = some d ∧ itemsD d = some xs ∧ Q (.tuple xs) e1 s1) : RunX Y (mTupOf mc) e s Q :=
  run_bind (run_agC (h.mono fun c _ s1 ⟨d, xs, h1, h2, h3⟩ => run_ag0 (Run.i (by
    dsimp only
    have : snaps s1 [c] = some [d] := by unfold snaps; rw [h1]; rfl
    rw [this]
    dsimp only
    rw [h2]
    exact h3))))
theorem run_catO {mc mk : M Cl} {Q : List Cl → Ev → St → Prop} (h : RunX Y mc e s fun c e1 s1 => RunX Y mk e1 s1 fun k e2 s2 => ∃ xs ys, snap s2 c = some (.list xs) ∧ snap s2 k = some (.list ys) ∧ xs.length + ys.length ≤ sizeLine ∧ Q ((xs ++ ys).map Cl.sh) e2 s2) : RunX Y (mCatO mc mk) e s Q :=
  run_bind (h.mono fun _ _ _ h => run_bind (h.mono fun _ _ _ ⟨xs, ys, h1, h2, h3, h4⟩ => Run.i (by
    dsimp only
    rw [h1, h2]
    dsimp only
    rw [if_pos h3]
    exact h4)))
theorem run_texts {f : List Str → D} {mc : M Cl} {Q : D → Ev → St → Prop} (h : RunX Y mc e s fun c e1 s1 => ∃ d xs ts, snap s1 c = some d ∧ itemsD d = some xs ∧ toSs xs = some ts ∧ ts.length + 1 < scanBound ∧ Q (f (metT ts)) e1 s1) : RunX Y (mTexts f mc) e s Q :=
  run_bind (h.mono fun c _ _ ⟨d, xs, ts, h1, h2, h3, h4, h5⟩ => Run.i (by
    dsimp only
    rw [h1, Option.bind_some, h2, Option.bind_some, h3]
    dsimp only
    rw [if_pos h4]
    exact h5))
theorem run_kin {neg : Bool} {ks : List Str} {Q : D → Ev → St → Prop} (h : RunX Y m e s fun d e1 s1 => ∃ z, toS d = some z ∧ Q (.bool (if neg then !ks.contains z else ks.contains z)) e1 s1) : RunX Y (mKIn neg ks m) e s Q := run_bind (h.mono fun _ _ _ ⟨z, h1, h2⟩ => run_opt ⟨_, by rw [h1]; rfl, h2⟩)
theorem run_dget {ml : M Nat} {mk : M D} {Q : Cl → Ev → St → Prop} (h : RunX Y ml e s fun l e1 s1 => RunX Y mk e1 s1 fun d e2 s2 => ∃ kvs k c, s2[l]? = some (.dk kvs) ∧ toK d = some k ∧ valC kvs k = some c ∧ Q c e2 s2) : RunX Y (mDGet ml mk) e s Q :=
  run_bind (h.mono fun l _ _ h => run_bind (h.mono fun d _ _ ⟨kvs, k, c, h1, h2, h3, h4⟩ => Run.i (by
    dsimp only
    rw [h1, h2]
    dsimp only
    rw [h3]
    exact h4)))
theorem run_dput {ml : M Nat} {mk : M D} {mc : M Cl} {Q : Fl → Ev → St → Prop} (h : RunX Y mc e s fun c e1 s1 => RunX Y ml e1 s1 fun l e2 s2 => RunX Y mk e2 s2 fun d e3 s3 => ∃ kvs k, s3[l]? = some (.dk kvs) ∧ toK d = some k ∧ kvs.length < sizeLine ∧ Q .nx e3 (s3.set l (.dk (putC kvs k c)))) : RunX Y (mDPut ml mk mc) e s Q :=
  run_bind (h.mono fun _ _ _ h => run_bind (h.mono fun _ _ _ h => run_bind (h.mono fun _ _ _ ⟨kvs, k, h1, h2, h3, h4⟩ => Run.i (by
    dsimp only
    rw [h1, h2]
    dsimp only
    rw [if_pos h3]
    exact h4))))
theorem run_din {neg : Bool} {ml : M Nat} {mk : M D} {Q : D → Ev → St → Prop} (h : RunX Y mk e s fun d e1 s1 => RunX Y ml e1 s1 fun l e2 s2 => ∃ kvs k, s2[l]? = some (.dk kvs) ∧ toK d = some k ∧ Q (.bool (if neg then !(valC kvs k).isSome else (valC kvs k).isSome)) e2 s2) : RunX Y (mDIn neg mk ml) e s Q :=
  run_bind (h.mono fun _ _ _ h => run_bind (h.mono fun _ _ _ ⟨kvs, k, h1, h2, h3⟩ => Run.i (by
    dsimp only
    rw [h1, h2]
    exact h3)))
theorem run_dnew {Q : Nat → Ev → St → Prop} (h : Q s.length e (s ++ [.dk []])) : RunX Y mDNew e s Q := Run.i h
theorem run_p0 {Q : List (Key × Cl) → Ev → St → Prop} (k : Q [] e s) : RunX Y (evP []) e s Q := Run.i k
theorem run_p1 {mk : M D} {mc : M Cl} {r : List (M D × M Cl)} {Q : List (Key × Cl) → Ev → St → Prop} (h : RunX Y mk e s fun d e1 s1 => ∃ k, toK d = some k ∧ RunX Y mc e1 s1 fun c e2 s2 => RunX Y (evP r) e2 s2 fun ps e3 s3 => Q ((k, c) :: ps) e3 s3) : RunX Y (evP ((mk, mc) :: r)) e s Q :=
  run_bind (h.mono fun _ _ _ ⟨k, h1, h2⟩ => run_optB ⟨k, h1, run_bind (h2.mono fun _ _ _ h => run_bind (h.mono fun _ _ _ h => run_pure h))⟩)
theorem run_disp {ps : List (M D × M Cl)} {Q : Nat → Ev → St → Prop} (h : RunX Y (evP ps) e s fun kvs e1 s1 => kvs.length ≤ 15 ∧ Q s1.length e1 (s1 ++ [.dk (mergeC [] kvs)])) : RunX Y (mDisp ps) e s Q :=
  run_bind (h.mono fun kvs _ _ ⟨h1, h2⟩ => run_optB ⟨(), if_pos h1, Run.i h2⟩)
theorem run_isDk {l : Nat} {Q : Nat → Ev → St → Prop} (h : ∃ kvs, s[l]? = some (.dk kvs) ∧ Q l e s) : RunX Y (isDk l) e s Q := by
  obtain ⟨kvs, h1, h2⟩ := h
  refine Run.i ?_
  unfold isDk
  dsimp only
  rw [h1]
  exact h2
theorem run_upd {ml mo : M Nat} {Q : Fl → Ev → St → Prop} (h : RunX Y ml e s fun l e1 s1 => ∃ k0, s1[l]? = some (.dk k0) ∧ RunX Y mo e1 s1 fun k e2 s2 => ∃ kvs more, s2[l]? = some (.dk kvs) ∧ s2[k]? = some (.dk more) ∧ (l ≠ k ∧ kvs.length + more.length ≤ sizeLine) ∧ Q .nx e2 (s2.set l (.dk (mergeC kvs more)))) : RunX Y (mUpd ml mo) e s Q :=
  run_bind (h.mono fun l _ _ ⟨k0, h0, h⟩ => run_bind (run_isDk ⟨k0, h0, run_bind (h.mono fun k _ _ ⟨kvs, more, h1, h2, h3, h4⟩ => Run.i (by
    dsimp only
    rw [h1, h2]
    dsimp only
    rw [if_pos h3]
    exact h4))⟩))
theorem run_isLst {l : Nat} {Q : Nat → Ev → St → Prop} (h : ∃ xs, s[l]? = some (.lst xs) ∧ Q l e s) : RunX Y (isLst l) e s Q := by
  obtain ⟨kvs, h1, h2⟩ := h
  refine Run.i ?_
  unfold isLst
  dsimp only
  rw [h1]
  exact h2
theorem run_app {ml : M Nat} {mc : M Cl} {Q : Fl → Ev → St → Prop} (h : RunX Y ml e s fun l e1 s1 => ∃ x0, s1[l]? = some (.lst x0) ∧ RunX Y mc e1 s1 fun c e2 s2 => ∃ xs, s2[l]? = some (.lst xs) ∧ xs.length < sizeLine ∧ Q .nx e2 (s2.set l (.lst (xs ++ [c])))) : RunX Y (mApp ml mc) e s Q :=
  run_bind (run_bind (h.mono fun l _ _ ⟨x0, h0, h⟩ => run_isLst ⟨x0, h0, run_bind (h.mono fun c _ _ ⟨xs, h1, h2, h3⟩ => Run.i (by
    dsimp only
    rw [h1]
    dsimp only
    rw [if_pos h2]
    exact h3))⟩))
theorem run_popAt {ml : M Nat} {mi : M D} {Q : Cl → Ev → St → Prop} (h : RunX Y ml e s fun l e1 s1 => ∃ x0, s1[l]? = some (.lst x0) ∧ RunX Y mi e1 s1 fun d e2 s2 => ∃ xs n c, s2[l]? = some (.lst xs) ∧ d = .int n ∧ (0 ≤ n ∧ n < xs.length ∧ xs.length ≤ sizeLine) ∧ xs[n.toNat]? = some c ∧ Q c e2 (s2.set l (.lst (xs.eraseIdx n.toNat)))) : RunX Y (mPopAt ml mi) e s Q :=
  run_bind (run_bind (h.mono fun l _ _ ⟨x0, h0, h⟩ => run_isLst ⟨x0, h0, run_bind (h.mono fun d _ _ ⟨xs, n, c, h1, h2, h3, h4, h5⟩ => Run.i (by
    subst h2
    dsimp only
    rw [h1]
    dsimp only
    rw [if_pos h3, h4]
    exact h5))⟩))
theorem run_ext {ml : M Nat} {mc : M Cl} {Q : Fl → Ev → St → Prop} (h : RunX Y ml e s fun l e1 s1 => ∃ x0, s1[l]? = some (.lst x0) ∧ RunX Y mc e1 s1 fun c e2 s2 => ∃ xs d ds, s2[l]? = some (.lst xs) ∧ snap s2 c = some d ∧ itemsD d = some ds ∧ xs.length + ds.length ≤ sizeLine ∧ Q .nx e2 (s2.set l (.lst (xs ++ ds.map Cl.sh)))) : RunX Y (mExt ml mc) e s Q :=
  run_bind (run_bind (h.mono fun l _ _ ⟨x0, h0, h⟩ => run_isLst ⟨x0, h0, run_bind (h.mono fun c _ _ ⟨xs, d, ds, h1, h2, h3, h4, h5⟩ => Run.i (by
    dsimp only
    rw [h1, h2, Option.bind_some, h3]
    dsimp only
    rw [if_pos h4]
    exact h5))⟩))
theorem run_setIx {ml : M Nat} {mi : M D} {mc : M Cl} {Q : Fl → Ev → St → Prop} (h : RunX Y mc e s fun c e1 s1 => RunX Y ml e1 s1 fun l e2 s2 => RunX Y mi e2 s2 fun d e3 s3 => ∃ xs n j, s3[l]? = some (.lst xs) ∧ d = .int n ∧ ixN xs.length n = some j ∧ Q .nx e3 (s3.set l (.lst (xs.set j c)))) : RunX Y (mSetIx ml mi mc) e s Q :=
  run_bind (h.mono fun _ _ _ h => run_bind (h.mono fun _ _ _ h => run_bind (h.mono fun _ _ _ ⟨xs, n, j, h1, h2, h3, h4⟩ => Run.i (by
    subst h2
    dsimp only
    rw [h1]
    dsimp only
    rw [h3]
    exact h4))))
theorem run_ifb {b : Bool} {m1 m2 : M α} {Q : α → Ev → St → Prop} (h1 : b = true → RunX Y m1 e s Q) (h2 : b = false → RunX Y m2 e s Q) : RunX Y (if b = true then m1 else m2) e s Q := by
  cases b with
  | true => exact h1 rfl
  | false => exact h2 rfl
theorem run_andT {t1 t2 : M Bool} {Q : Bool → Ev → St → Prop} (h : RunX Y t1 e s fun b e1 s1 => (b = true → RunX Y t2 e1 s1 Q) ∧ (b = false → Q false e1 s1)) : RunX Y (mAndT t1 t2) e s Q := run_bind (h.mono fun b _ _ h => run_ifb h.1 fun z => run_pure (h.2 z))
theorem run_orT {t1 t2 : M Bool} {Q : Bool → Ev → St → Prop} (h : RunX Y t1 e s fun b e1 s1 => (b = true → Q true e1 s1) ∧ (b = false → RunX Y t2 e1 s1 Q)) : RunX Y (mOrT t1 t2) e s Q := run_bind (h.mono fun b _ _ h => run_ifb (fun z => run_pure (h.1 z)) h.2)
theorem run_notT {t : M Bool} {Q : Bool → Ev → St → Prop} (h : RunX Y t e s fun b e1 s1 => Q (!b) e1 s1) : RunX Y (mNotT t) e s Q := run_bind (h.mono fun _ _ _ h => run_pure h)
theorem run_andV {m1 m2 : M D} {Q : D → Ev → St → Prop} (h : RunX Y m1 e s fun d e1 s1 => ∃ b, toB d = some b ∧ (b = true → RunX Y m2 e1 s1 Q) ∧ (b = false → Q (.bool false) e1 s1)) : RunX Y (mAndV m1 m2) e s Q := run_bind (run_test (h.mono fun _ _ _ ⟨b, h1, h2, h3⟩ => ⟨b, h1, run_ifb h2 fun z => run_pure (h3 z)⟩))
theorem run_orV {m1 m2 : M D} {Q : D → Ev → St → Prop} (h : RunX Y m1 e s fun d e1 s1 => ∃ b, toB d = some b ∧ (b = true → Q (.bool true) e1 s1) ∧ (b = false → RunX Y m2 e1 s1 Q)) : RunX Y (mOrV m1 m2) e s Q := run_bind (run_test (h.mono fun _ _ _ ⟨b, h1, h2, h3⟩ => ⟨b, h1, run_ifb (fun z => run_pure (h2 z)) h3⟩))
theorem run_notV {Q : D → Ev → St → Prop} (h : RunX Y m e s fun d e1 s1 => ∃ b, toB d = some b ∧ Q (.bool (!b)) e1 s1) : RunX Y (mNotV m) e s Q := run_bind (run_test (h.mono fun _ _ _ ⟨b, h1, h2⟩ => ⟨b, h1, run_pure h2⟩))
theorem run_ifE {t : M Bool} {m1 m2 : M D} {Q : D → Ev → St → Prop} (h : RunX Y t e s fun b e1 s1 => (b = true → RunX Y m1 e1 s1 Q) ∧ (b = false → RunX Y m2 e1 s1 Q)) : RunX Y (mIfE t m1 m2) e s Q := run_bind (h.mono fun b _ _ h => run_ifb h.1 h.2)
theorem run_neg {Q : D → Ev → St → Prop} (h : RunX Y m e s fun d e1 s1 => ∃ c, dNeg d = some c ∧ Q c e1 s1) : RunX Y (mNeg m) e s Q := run_bind (h.mono fun _ _ _ h => run_opt h)
theorem run_nx {Q : Fl → Ev → St → Prop} (h : Q .nx e s) : RunX Y mNx e s Q := run_pure h
theorem run_seq {m1 m2 : M Fl} {Q : Fl → Ev → St → Prop} (h : RunX Y m1 e s fun fl e1 s1 => (fl = .nx → RunX Y m2 e1 s1 Q) ∧ (fl ≠ .nx → Q fl e1 s1)) : RunX Y (mSeq m1 m2) e s Q := by
  unfold RunX at *
  unfold mSeq
  cases q : m1 ⟨e, s⟩ with
  | ok fl x =>
    rw [q] at h
    cases fl with
    | nx =>
      have z := h.1 rfl
      exact z
    | rt c => exact h.2 (by simp)
    | bk => exact h.2 (by simp)
    | ct => exact h.2 (by simp)
  | exc y x => rw [q] at h; exact h
  | bad => rw [q] at h; exact h
theorem run_expr {m : M Cl} {Q : Fl → Ev → St → Prop} (h : RunX Y m e s fun _ e1 s1 => Q .nx e1 s1) : RunX Y (mExpr m) e s Q := run_bind (h.mono fun _ _ _ h => run_pure h)
theorem run_ret {m : M Cl} {Q : Fl → Ev → St → Prop} (h : RunX Y m e s fun c e1 s1 => Q (.rt c) e1 s1) : RunX Y (mRet m) e s Q := run_bind (h.mono fun _ _ _ h => run_pure h)
theorem run_ifS {t : M Bool} {m1 m2 : M Fl} {Q : Fl → Ev → St → Prop} (h : RunX Y t e s fun b e1 s1 => (b = true → RunX Y m1 e1 s1 Q) ∧ (b = false → RunX Y m2 e1 s1 Q)) : RunX Y (mIfS t m1 m2) e s Q := run_bind (h.mono fun b _ _ h => run_ifb h.1 h.2)
theorem run_set {i : Nat} {m : M Cl} {Q : Fl → Ev → St → Prop} (h : RunX Y m e s fun c e1 s1 => Q .nx (e1.set i c) s1) : RunX Y (mSet i m) e s Q := run_bind (h.mono fun _ _ _ h => Run.i h)
theorem run_asg {g : MG Cl} {m : M Cl} {Q : Fl → Ev → St → Prop} (h : RunX Y m e s fun c e1 s1 => ∃ e', g c e1 = some e' ∧ Q .nx e' s1) : RunX Y (mAsg g m) e s Q :=
  run_bind (h.mono fun _ _ _ ⟨e', h1, h2⟩ => Run.i (by dsimp only; rw [h1]; exact h2))
theorem run_iter {Q : List D → Ev → St → Prop} (h : RunX Y m e s fun d e1 s1 => ∃ ds, dItems d = some ds ∧ Q ds e1 s1) : RunX Y (mIter m) e s Q := run_bind (h.mono fun _ _ _ h => run_opt h)
theorem run_rng1 {Q : List D → Ev → St → Prop} (h : RunX Y m e s fun d e1 s1 => ∃ ds, bRng1 d = some ds ∧ Q ds e1 s1) : RunX Y (mRng1 m) e s Q := run_bind (h.mono fun _ _ _ h => run_opt h)
theorem run_rng2 {ma mb : M D} {Q : List D → Ev → St → Prop} (h : RunX Y ma e s fun d e1 s1 => RunX Y mb e1 s1 fun c e2 s2 => ∃ ds, bRng2 d c = some ds ∧ Q ds e2 s2) : RunX Y (mRng2 ma mb) e s Q := run_bind (h.mono fun _ _ _ h => run_bind (h.mono fun _ _ _ h => run_opt h))
theorem run_for {mi : M (List D)} {g : MG Cl} {mb : M Fl} {Q : Fl → Ev → St → Prop} (h : RunX Y mi e s fun ds e1 s1 => RunX Y (forL g mb ds) e1 s1 Q) : RunX Y (mFor mi g mb) e s Q := run_bind h
theorem run_forL {g : MG Cl} {mb : M Fl} {Q : Fl → Ev → St → Prop} (ds : List D) (I : Nat → Ev → St → Prop) (h0 : I 0 e s)
    (hs : ∀ (i : Nat) (d : D) (e : Ev) (s : St), ds[i]? = some d → I i e s → ∃ e1, g (.sh d) e = some e1 ∧ RunX Y mb e1 s fun fl e2 s2 => (fl = .nx ∨ fl = .ct → I (i + 1) e2 s2) ∧ (fl = .bk → Q .nx e2 s2) ∧ (∀ c, fl = .rt c → Q (.rt c) e2 s2))
    (hd : ∀ e s, I ds.length e s → Q .nx e s) : RunX Y (forL g mb ds) e s Q := by
  suffices H : ∀ (k i : Nat) (e : Ev) (s : St), i + k = ds.length → I i e s → RunX Y (forL g mb (ds.drop i)) e s Q by
    have := H ds.length 0 e s (by omega) h0
    rwa [List.drop_zero] at this
  intro k
  induction k with
  | zero =>
    intro i e s hi hI
    have e' : i = ds.length := by omega
    subst e'
    rw [List.drop_length]
    exact Run.i (hd e s hI)
  | succ k ih =>
    intro i e s hi hI
    have hlt : i < ds.length := by omega
    obtain ⟨e1, h1, h2⟩ := hs i ds[i] e s (List.getElem?_eq_getElem hlt) hI
    rw [List.drop_eq_getElem_cons hlt]
    unfold RunX forL
    dsimp only
    rw [h1]
    unfold RunX at h2
    dsimp only
    cases q : mb ⟨e1, s⟩ with
    | ok fl x =>
      rw [q] at h2
      obtain ⟨a1, a2, a3⟩ := h2
      cases fl with
      | nx => have z := ih (i + 1) x.e x.s (by omega) (a1 (.inl rfl)); unfold RunX at z; exact z
      | ct => have z := ih (i + 1) x.e x.s (by omega) (a1 (.inr rfl)); unfold RunX at z; exact z
      | bk => exact a2 rfl
      | rt c => exact a3 c rfl
    | exc y x => rw [q] at h2; exact h2
    | bad => rw [q] at h2; exact h2
theorem run_forL_nil {g : MG Cl} {mb : M Fl} {Q : Fl → Ev → St → Prop} (h : Q .nx e s) : RunX Y (forL g mb []) e s Q := Run.i h
theorem run_comp {mi : M (List D)} {vs : List Nat} {g : MG Cl} {mt : M Bool} {me : M D} {Q : List Cl → Ev → St → Prop}
    (h : RunX Y mi e s fun ds e1 s1 => ds.length ≤ sizeLine ∧ RunX NoY (compL vs g mt me ds) (wipeE e1 vs) s1 fun ys e2 s2 => Q (ys.map Cl.sh) (backE e1 e2 vs) s2) : RunX Y (mComp mi vs g mt me) e s Q :=
  run_bind (h.mono fun ds e1 s1 ⟨h1, h2⟩ => by
    unfold RunX compE
    dsimp only
    rw [if_pos h1]
    unfold RunX at h2
    cases q : compL vs g mt me ds ⟨wipeE e1 vs, s1⟩ with
    | ok ys x => rw [q] at h2; exact h2
    | exc y x => rw [q] at h2; exact h2
    | bad => rw [q] at h2; exact h2)
theorem run_compL {vs : List Nat} {g : MG Cl} {mt : M Bool} {me : M D} (ds : List D) (J : Nat → List D → Ev → St → Prop) {Q : List D → Ev → St → Prop} (h0 : J 0 [] e s)
    (hs : ∀ (i : Nat) (d : D) (ys : List D) (e : Ev) (s : St), ds[i]? = some d → J i ys e s → ∃ e1, g (.sh d) e = some e1 ∧ RunX Y mt e1 s fun b e2 s2 => (b = true → RunX Y me e2 s2 fun y e3 s3 => J (i + 1) (ys ++ [y]) (wipeE e3 vs) s3) ∧ (b = false → J (i + 1) ys (wipeE e2 vs) s2))
    (hd : ∀ ys e s, J ds.length ys e s → Q ys e s) : RunX Y (compL vs g mt me ds) e s Q := by
  suffices H : ∀ (k i : Nat) (ys : List D) (e : Ev) (s : St), i + k = ds.length → J i ys e s → RunX Y (compL vs g mt me (ds.drop i)) e s fun zs e2 s2 => Q (ys ++ zs) e2 s2 by
    have := H ds.length 0 [] e s (by omega) h0
    rw [List.drop_zero] at this
    exact this.mono fun _ _ _ h => h
  intro k
  induction k with
  | zero =>
    intro i ys e s hi hJ
    have e' : i = ds.length := by omega
    subst e'
    rw [List.drop_length]
    refine Run.i ?_
    show Q (ys ++ []) e s
    rw [List.append_nil]
    exact hd ys e s hJ
  | succ k ih =>
    intro i ys e s hi hJ
    have hlt : i < ds.length := by omega
    obtain ⟨e1, h1, h2⟩ := hs i ds[i] ys e s (List.getElem?_eq_getElem hlt) hJ
    rw [List.drop_eq_getElem_cons hlt]
    have z : RunX Y (mBind mt (fun b => if b then mBind me (fun y => mBind (mWipe vs) fun _ => mBind (compL vs g mt me (ds.drop (i + 1))) fun ys => mPure (y :: ys)) else mBind (mWipe vs) fun _ => compL vs g mt me (ds.drop (i + 1)))) e1 s fun zs e2 s2 => Q (ys ++ zs) e2 s2 := by
      refine run_bind (h2.mono fun b e2 s2 h => run_ifb (fun hb => ?_) fun hb => ?_)
      · refine run_bind ((h.1 hb).mono fun y e3 s3 hJ' => run_bind (Run.i ?_))
        show RunX Y (mBind (compL vs g mt me (ds.drop (i + 1))) fun ys => mPure (y :: ys)) (wipeE e3 vs) s3 _
        refine run_bind ((ih (i + 1) _ _ _ (by omega) hJ').mono fun zs e4 s4 q => Run.i ?_)
        show Q (ys ++ (y :: zs)) e4 s4
        rw [List.append_assoc] at q
        exact q
      · refine run_bind (Run.i ?_)
        show RunX Y (compL vs g mt me (ds.drop (i + 1))) (wipeE e2 vs) s2 _
        exact ih (i + 1) _ _ _ (by omega) (h.2 hb)
    unfold RunX at z ⊢
    unfold compL
    dsimp only
    rw [h1]
    exact z
theorem run_yes {Q : Bool → Ev → St → Prop} (h : Q true e s) : RunX Y mYes e s Q := run_pure h
theorem frun_fn {n N : Nat} {mb : M Fl} {as : Ev} {Q : Cl → St → Prop} (hn : as.length = n) (h : RunX (fun y _ s' => YF y s') mb (as ++ List.replicate (N - n) .no) s fun fl e1 s1 => (fl = .nx → Q (.sh .none) (trim s.length (.sh .none) s1)) ∧ (∀ c, fl = .rt c → Q c (trim s.length c s1)) ∧ fl ≠ .bk ∧ fl ≠ .ct) : FRunX YF (fnF n N mb) as s Q := by
  unfold FRunX fnF
  rw [if_pos hn]
  unfold RunX at h
  cases q : mb ⟨as ++ List.replicate (N - n) .no, s⟩ with
  | ok fl x =>
    rw [q] at h
    obtain ⟨h1, h2, h3, h4⟩ := h
    cases fl with
    | nx => exact h1 rfl
    | rt c => exact h2 c rfl
    | bk => exact (h3 rfl).elim
    | ct => exact (h4 rfl).elim
  | exc y x => rw [q] at h; exact h
  | bad => rw [q] at h; exact h
end
end Ds
namespace Ds
open PySem PySem.Spec PyProof.Rows L2 Dn
section
variable {A B : Prop} {C : Cl → Prop} {c : Cl}
theorem seq_nx (h : A) : (Fl.nx = .nx → A) ∧ (Fl.nx ≠ .nx → B) := ⟨fun _ => h, fun z => absurd rfl z⟩
theorem seq_rt (h : B) : (Fl.rt c = .nx → A) ∧ (Fl.rt c ≠ .nx → B) := ⟨fun z => (nomatch z), fun _ => h⟩
theorem fin_rt (h : C c) : (Fl.rt c = .nx → A) ∧ (∀ c', Fl.rt c = .rt c' → C c') ∧ Fl.rt c ≠ .bk ∧ Fl.rt c ≠ .ct := ⟨fun z => (nomatch z), fun s' z => by cases z; exact h, by simp, by simp⟩
theorem fin_nx (h : A) : (Fl.nx = .nx → A) ∧ (∀ c', Fl.nx = .rt c' → C c') ∧ Fl.nx ≠ .bk ∧ Fl.nx ≠ .ct := ⟨fun _ => h, fun s' z => (nomatch z), by simp, by simp⟩
theorem turn_nx (h : A) : (Fl.nx = .nx ∨ Fl.nx = .ct → A) ∧ (Fl.nx = .bk → B) ∧ (∀ c', Fl.nx = .rt c' → C c') := ⟨fun _ => h, fun z => (nomatch z), fun s' z => (nomatch z)⟩
theorem turn_ct (h : A) : (Fl.ct = .nx ∨ Fl.ct = .ct → A) ∧ (Fl.ct = .bk → B) ∧ (∀ c', Fl.ct = .rt c' → C c') := ⟨fun _ => h, fun z => (nomatch z), fun s' z => (nomatch z)⟩
theorem turn_bk (h : B) : (Fl.bk = .nx ∨ Fl.bk = .ct → A) ∧ (Fl.bk = .bk → B) ∧ (∀ c', Fl.bk = .rt c' → C c') := ⟨fun z => by simp at z, fun _ => h, fun s' z => (nomatch z)⟩
theorem turn_rt (h : C c) : (Fl.rt c = .nx ∨ Fl.rt c = .ct → A) ∧ (Fl.rt c = .bk → B) ∧ (∀ c', Fl.rt c = .rt c' → C c') := ⟨fun z => by simp at z, fun z => (nomatch z), fun s' z => by cases z; exact h⟩
end
theorem two_Tb {A B : Prop} {b : Bool} (hb : b = true) (h : A) : (b = true → A) ∧ (b = false → B) := ⟨fun _ => h, fun z => absurd (hb.symm.trans z) (by decide)⟩
theorem two_Fb {A B : Prop} {b : Bool} (hb : b = false) (h : B) : (b = true → A) ∧ (b = false → B) := ⟨fun z => absurd (hb.symm.trans z) (by decide), fun _ => h⟩
theorem trim_len {n : Nat} {c : Cl} {s : St} (h : s.length = n) : trim n c s = s := by
  unfold trim
  split
  · rw [List.take_of_length_le (by omega)]
  · rfl
theorem trim_get {n : Nat} {c : Cl} {s : St} {j : Nat} (h : j < n) : (trim n c s)[j]? = s[j]? := by
  unfold trim
  split
  · rw [List.getElem?_take_of_lt h]
  · rfl
theorem trim_ge {n : Nat} {c : Cl} {s : St} (h : n ≤ s.length) : n ≤ (trim n c s).length := trim_le h
theorem shL_map : ∀ ds : List D, shL (ds.map Cl.sh) = some ds
  | [] => rfl
  | d :: ds => by rw [List.map_cons]; unfold shL; rw [shL_map ds]; rfl
theorem set_same {s : St} {l : Nat} {o : Ob} (h : l < s.length) : (s.set l o)[l]? = some o := List.getElem?_set_self h
theorem set_other {s : St} {l j : Nat} {o : Ob} (h : j ≠ l) : (s.set l o)[j]? = s[j]? := List.getElem?_set_ne (Ne.symm h)
theorem app_old {s : St} {j : Nat} {o : Ob} (h : j < s.length) : (s ++ [o])[j]? = s[j]? := List.getElem?_append_left h
theorem app_new {s : St} {o : Ob} : (s ++ [o])[s.length]? = some o := by
  rw [List.getElem?_append_right (Nat.le_refl _), Nat.sub_self]
  rfl
theorem lt_of_at {s : St} {l : Nat} {o : Ob} (h : s[l]? = some o) : l < s.length := (List.getElem?_eq_some_iff.mp h).1
/-- x[i], a list of the store with data at i -/
theorem ixC_lo {s : St} {l : Nat} {xs : List Cl} {i : Int} {c : Cl} (h : s[l]? = some (.lst xs)) (h2 : atI xs i = some c) : ixC s (.lo l) (.int i) = some c := by
  show (match s[l]?, (PyData.int i) with
    | some (.lst xs), .int i => atI xs i
    | _, _ => none) = _
  rw [h]
  exact h2
end Ds
namespace Ds
open PySem PySem.Spec PyProof.Rows L2 Dn
section
variable {α β : Type} {e : Ev} {s : St} {m : M D} {Y : Exn → Ev → St → Prop}
theorem run_enum {Q : List D → Ev → St → Prop} (h : RunX Y m e s fun d e1 s1 => ∃ ds, dItems d = some ds ∧ Q (enumD ds) e1 s1) : RunX Y (mEnum m) e s Q :=
  run_bind (h.mono fun _ _ _ ⟨ds, a, b⟩ => run_opt ⟨_, by rw [a]; rfl, b⟩)
theorem run_zip {ma mb : M D} {Q : List D → Ev → St → Prop} (h : RunX Y ma e s fun d e1 s1 => RunX Y mb e1 s1 fun c e2 s2 => ∃ ds es, dItems d = some ds ∧ dItems c = some es ∧ Q (zipD ds es) e2 s2) : RunX Y (mZip ma mb) e s Q :=
  run_bind (h.mono fun _ _ _ h => run_bind (h.mono fun _ _ _ ⟨ds, es, a, b, c⟩ => run_opt ⟨_, by rw [a, b]; rfl, c⟩))
theorem run_rng3 {ma mb mc : M D} {Q : List D → Ev → St → Prop} (h : RunX Y ma e s fun d e1 s1 => RunX Y mb e1 s1 fun c e2 s2 => RunX Y mc e2 s2 fun k e3 s3 => ∃ ds, bRng3 d c k = some ds ∧ Q ds e3 s3) : RunX Y (mRng3 ma mb mc) e s Q :=
  run_bind (h.mono fun _ _ _ h => run_bind (h.mono fun _ _ _ h => run_bind (h.mono fun _ _ _ h => run_opt h)))
theorem run_kget {kvs : List (Str × D)} {Q : D → Ev → St → Prop} (h : RunX Y m e s fun d e1 s1 => ∃ z r, toS d = some z ∧ lookS kvs z = some r ∧ Q r e1 s1) : RunX Y (mKGet kvs m) e s Q :=
  run_bind (h.mono fun _ _ _ ⟨z, r, a, b, c⟩ => run_opt ⟨r, by rw [a]; exact b, c⟩)
theorem run_sortD {ml : M Nat} {Q : D → Ev → St → Prop} (h : RunX Y ml e s fun l e1 s1 => ∃ kvs ks, s1[l]? = some (.dk kvs) ∧ keysS kvs = some ks ∧ ks.length < 64 ∧ Q (.list ((sortT ks).map PyData.str)) e1 s1) : RunX Y (mSortD ml) e s Q :=
  run_bind (h.mono fun l _ _ ⟨kvs, ks, h1, h2, h3, h4⟩ => Run.i (by
    dsimp only
    rw [h1]
    dsimp only
    rw [h2]
    dsimp only
    rw [if_pos h3]
    exact h4))
theorem run_dget2 {ml : M Nat} {mk : M D} {mc : M Cl} {Q : Cl → Ev → St → Prop} (h : RunX Y ml e s fun l e1 s1 => ∃ k0, s1[l]? = some (.dk k0) ∧ RunX Y mk e1 s1 fun d e2 s2 => RunX Y mc e2 s2 fun z e3 s3 => ∃ kvs k, s3[l]? = some (.dk kvs) ∧ toK d = some k ∧ Q ((valC kvs k).getD z) e3 s3) : RunX Y (mDGet2 ml mk mc) e s Q :=
  run_bind (h.mono fun l _ _ ⟨k0, h0, h⟩ => run_bind (run_isDk ⟨k0, h0, run_bind (h.mono fun d _ _ h => run_bind (h.mono fun z _ _ ⟨kvs, k, h1, h2, h3⟩ => Run.i (by
    dsimp only
    rw [h1, h2]
    exact h3)))⟩))
/-- a comprehension told by functions; I: what stays true of the store -/
theorem run_compF {vs : List Nat} {g : MG Cl} {mt : M Bool} {me : M D} {Q : List D → Ev → St → Prop} (ds : List D) (p : D → Bool) (f : D → D) (I : St → Prop) (h0 : I s)
    (hs : ∀ d ∈ ds, ∀ s, I s → ∃ e1, g (.sh d) e = some e1 ∧ RunX Y mt e1 s fun b e2 s2 => b = p d ∧ (b = true → RunX Y me e2 s2 fun y e3 s3 => y = f d ∧ wipeE e3 vs = e ∧ I s3) ∧ (b = false → wipeE e2 vs = e ∧ I s2))
    (fin : ∀ s, I s → Q ((ds.filter p).map f) e s) : RunX Y (compL vs g mt me ds) e s Q := by
  refine run_compL ds (fun i ys e' s' => e' = e ∧ I s' ∧ ys = ((ds.take i).filter p).map f) ⟨rfl, h0, by simp⟩ (fun i d ys e' s' hd ⟨he, hI, hy⟩ => ?_) fun ys e' s' ⟨he, hI, hy⟩ => ?_
  · subst he; subst hy
    obtain ⟨e1, h1, h2⟩ := hs d (List.mem_of_getElem? hd) s' hI
    refine ⟨e1, h1, h2.mono fun b e2 s2 ⟨hb, ht, hf⟩ => ⟨fun hb' => (ht hb').mono fun y e3 s3 ⟨a, b', c⟩ => ⟨b', c, ?_⟩, fun hb' => ?_⟩⟩
    · rw [filter_take_succ p ds i d hd, ← hb, hb', a]
      simp
    · obtain ⟨a, b'⟩ := hf hb'
      refine ⟨a, b', ?_⟩
      rw [filter_take_succ p ds i d hd, ← hb, hb']
      simp
  · subst he; subst hy
    rw [List.take_length]
    exact fin s' hI
end
theorem canAll : ∀ {ds : List D}, (∀ d ∈ ds, d.canLay0 = true) → PyData.canLayAll0 ds = true
  | [], _ => rfl
  | d :: ds, h => by
    rw [PyData.canLayAll0, h d List.mem_cons_self, canAll fun x hx => h x (List.mem_cons_of_mem _ hx)]
    rfl
theorem depAll {n : Nat} : ∀ {ds : List D}, (∀ d ∈ ds, d.depth ≤ n) → PyData.depthAll ds ≤ n
  | [], _ => Nat.zero_le _
  | d :: ds, h => by
    rw [PyData.depthAll]
    exact Nat.max_le.mpr ⟨h d List.mem_cons_self, depAll fun x hx => h x (List.mem_cons_of_mem _ hx)⟩
/-- data that == takes, so deep -/
def Sh (n : Nat) (d : D) : Prop := d.canLay0 = true ∧ d.depth ≤ n
theorem Sh.mono {n m : Nat} {d : D} (h : Sh n d) (k : n ≤ m) : Sh m d := ⟨h.1, Nat.le_trans h.2 k⟩
theorem Sh.tup {n : Nat} {ds : List D} (h : ∀ d ∈ ds, Sh n d) : Sh (n + 1) (.tuple ds) := ⟨canAll fun d hd => (h d hd).1, by rw [PyData.depth]; exact Nat.succ_le_succ (depAll fun d hd => (h d hd).2)⟩
theorem Sh.lst {n : Nat} {ds : List D} (h : ∀ d ∈ ds, Sh n d) : Sh (n + 1) (.list ds) := ⟨canAll fun d hd => (h d hd).1, by rw [PyData.depth]; exact Nat.succ_le_succ (depAll fun d hd => (h d hd).2)⟩
theorem Sh.str {n k : Nat} {x : Str} (h : Ok n x) : Sh k (.str x) := ⟨h.strOk, Nat.zero_le _⟩
theorem Sh.int {k : Nat} {i : Int} : Sh k (.int i) := ⟨rfl, Nat.zero_le _⟩
theorem Sh.strs {n k : Nat} {xs : List Str} (h : ∀ x ∈ xs, Ok n x) : Sh (k + 1) (.tuple (xs.map PyData.str)) := Sh.tup fun d hd => by
  obtain ⟨x, hx, rfl⟩ := List.mem_map.mp hd
  exact Sh.str (h x hx)
theorem Sh.ok {n : Nat} {d : D} (h : Sh n d) (k : n ≤ 64 := by decide) : SeqAt.shaped d = true := by
  unfold SeqAt.shaped
  rw [h.1, decide_eq_true (Nat.le_trans h.2 k)]
  rfl
theorem Sh.same {n : Nat} {d : D} (h : Sh n d) : PyData.eqv d d = true := PySem.SeqAt.eqv_refl d h.1
theorem trim_lo {n l : Nat} {s : St} (h : n ≤ l) : trim n (.lo l) s = s := by
  unfold trim
  rw [if_neg]
  intro z
  have : Cl.below n (.lo l) = true := by
    have := (Bool.and_eq_true _ _ ▸ z : _ ∧ _).1
    exact this
  simp [Cl.below] at this
  omega
/-- nothing of the old changes -/
def Fz (s s' : St) : Prop := s.length ≤ s'.length ∧ ∀ j, j < s.length → s'[j]? = s[j]?
theorem Fz.refl (s : St) : Fz s s := ⟨Nat.le_refl _, fun _ _ => rfl⟩
theorem Fz.trans {s s1 s2 : St} (h : Fz s s1) (k : Fz s1 s2) : Fz s s2 := ⟨Nat.le_trans h.1 k.1, fun j hj => (k.2 j (Nat.lt_of_lt_of_le hj h.1)).trans (h.2 j hj)⟩
theorem Fz.trim {c : Cl} {s s' : St} (h : Fz s s') : Fz s (trim s.length c s') := ⟨trim_ge h.1, fun j hj => (trim_get hj).trans (h.2 j hj)⟩
theorem Fz.app {o : Ob} {s : St} : Fz s (s ++ [o]) := ⟨by simp, fun j hj => app_old hj⟩
theorem Fz.put {l : Nat} {o : Ob} {s0 s : St} (h : Fz s0 s) (hl : s0.length ≤ l) : Fz s0 (s.set l o) := ⟨by simpa using h.1, fun j hj => (set_other (by omega)).trans (h.2 j hj)⟩
theorem Fz.at_ {l : Nat} {o : Ob} {s s' : St} (h : Fz s s') (k : s[l]? = some o) : s'[l]? = some o := (h.2 l (lt_of_at k)).trans k
theorem drop_at {ds : List D} {i : Nat} {d : D} (h : ds[i]? = some d) : ds.drop i = d :: ds.drop (i + 1) := by
  have hl := (List.getElem?_eq_some_iff.mp h).1
  rw [List.drop_eq_getElem_cons hl]
  rw [List.getElem?_eq_getElem hl] at h
  rw [Option.some.inj h]
theorem run_forR {Y : Exn → Ev → St → Prop} {e : Ev} {s : St} {g : MG Cl} {mb : M Fl} {Q : Fl → Ev → St → Prop} (ds : List D) (I : List D → Ev → St → Prop) (h0 : I ds e s)
    (hs : ∀ (d : D) (r : List D) (e : Ev) (s : St), I (d :: r) e s → ∃ e1, g (.sh d) e = some e1 ∧ RunX Y mb e1 s fun fl e2 s2 => (fl = .nx ∨ fl = .ct → I r e2 s2) ∧ (fl = .bk → Q .nx e2 s2) ∧ (∀ c, fl = .rt c → Q (.rt c) e2 s2))
    (hd : ∀ e s, I [] e s → Q .nx e s) : RunX Y (forL g mb ds) e s Q :=
  run_forL ds (fun i e s => I (ds.drop i) e s) (by rw [List.drop_zero]; exact h0) (fun i d e s h hI => hs d _ e s (by rw [drop_at h] at hI; exact hI)) fun e s hI => hd e s (by rw [List.drop_length] at hI; exact hI)
theorem run_compR {Y : Exn → Ev → St → Prop} {e : Ev} {s : St} {vs : List Nat} {g : MG Cl} {mt : M Bool} {me : M D} (ds : List D) (J : List D → List D → Ev → St → Prop) {Q : List D → Ev → St → Prop} (h0 : J ds [] e s)
    (hs : ∀ (d : D) (r ys : List D) (e : Ev) (s : St), J (d :: r) ys e s → ∃ e1, g (.sh d) e = some e1 ∧ RunX Y mt e1 s fun b e2 s2 => (b = true → RunX Y me e2 s2 fun y e3 s3 => J r (ys ++ [y]) (wipeE e3 vs) s3) ∧ (b = false → J r ys (wipeE e2 vs) s2))
    (hd : ∀ ys e s, J [] ys e s → Q ys e s) : RunX Y (compL vs g mt me ds) e s Q :=
  run_compL ds (fun i ys e s => J (ds.drop i) ys e s) (by rw [List.drop_zero]; exact h0) (fun i d ys e s h hI => hs d _ ys e s (by rw [drop_at h] at hI; exact hI)) fun ys e s hI => hd ys e s (by rw [List.drop_length] at hI; exact hI)
end Ds
namespace Ds
open PySem PySem.Spec PyProof.Rows L2 Dn
section
variable {α β : Type} {e : Ev} {s : St} {m : M D} {Y : Exn → Ev → St → Prop}
theorem tk_dt {l : Nat} {kvs : List (List Key × Cl)} (h : s[l]? = some (.dt kvs)) : tkAt s l = some kvs := by unfold tkAt; rw [h]; rfl
theorem tk_ft {l : Nat} {kvs : List (List Key × Cl)} (h : s[l]? = some (.ft kvs)) : tkAt s l = some kvs := by unfold tkAt; rw [h]; rfl
theorem run_tget {ml : M Nat} {mk : M D} {Q : Cl → Ev → St → Prop} (h : RunX Y ml e s fun l e1 s1 => RunX Y mk e1 s1 fun d e2 s2 => ∃ kvs k c, tkAt s2 l = some kvs ∧ toTK d = some k ∧ valC kvs k = some c ∧ Q c e2 s2) : RunX Y (mTGet ml mk) e s Q :=
  run_bind (h.mono fun l _ _ h => run_bind (h.mono fun d _ _ ⟨kvs, k, c, h1, h2, h3, h4⟩ => Run.i (by
    dsimp only
    rw [h1, h2]
    dsimp only
    rw [h3]
    exact h4)))
theorem run_isDt {l : Nat} {Q : Nat → Ev → St → Prop} (h : ∃ kvs, tkAt s l = some kvs ∧ Q l e s) : RunX Y (isDt l) e s Q := by
  obtain ⟨kvs, h1, h2⟩ := h
  refine Run.i ?_
  unfold isDt
  dsimp only
  rw [h1]
  exact h2
theorem run_tget2 {ml : M Nat} {mk : M D} {mc : M Cl} {Q : Cl → Ev → St → Prop} (h : RunX Y ml e s fun l e1 s1 => ∃ k0, tkAt s1 l = some k0 ∧ RunX Y mk e1 s1 fun d e2 s2 => RunX Y mc e2 s2 fun z e3 s3 => ∃ kvs k, tkAt s3 l = some kvs ∧ toTK d = some k ∧ Q ((valC kvs k).getD z) e3 s3) : RunX Y (mTGet2 ml mk mc) e s Q :=
  run_bind (h.mono fun l _ _ ⟨k0, h0, h⟩ => run_bind (run_isDt ⟨k0, h0, run_bind (h.mono fun d _ _ h => run_bind (h.mono fun z _ _ ⟨kvs, k, h1, h2, h3⟩ => Run.i (by
    dsimp only
    rw [h1, h2]
    exact h3)))⟩))
theorem run_tput {ml : M Nat} {mk : M D} {mc : M Cl} {Q : Fl → Ev → St → Prop} (h : RunX Y mc e s fun c e1 s1 => RunX Y ml e1 s1 fun l e2 s2 => RunX Y mk e2 s2 fun d e3 s3 => ∃ kvs k, s3[l]? = some (.dt kvs) ∧ toTK d = some k ∧ kvs.length < sizeLine ∧ Q .nx e3 (s3.set l (.dt (putC kvs k c)))) : RunX Y (mTPut ml mk mc) e s Q :=
  run_bind (h.mono fun _ _ _ h => run_bind (h.mono fun _ _ _ h => run_bind (h.mono fun _ _ _ ⟨kvs, k, h1, h2, h3, h4⟩ => Run.i (by
    dsimp only
    rw [h1, h2]
    dsimp only
    rw [if_pos h3]
    exact h4))))
theorem run_tin {neg : Bool} {ml : M Nat} {mk : M D} {Q : D → Ev → St → Prop} (h : RunX Y mk e s fun d e1 s1 => RunX Y ml e1 s1 fun l e2 s2 => ∃ kvs k, tkAt s2 l = some kvs ∧ toTK d = some k ∧ Q (.bool (if neg then !(valC kvs k).isSome else (valC kvs k).isSome)) e2 s2) : RunX Y (mTIn neg mk ml) e s Q :=
  run_bind (h.mono fun _ _ _ h => run_bind (h.mono fun _ _ _ ⟨kvs, k, h1, h2, h3⟩ => Run.i (by
    dsimp only
    rw [h1, h2]
    exact h3)))
theorem run_tnew {Q : Nat → Ev → St → Prop} (h : Q s.length e (s ++ [.dt []])) : RunX Y mTNew e s Q := Run.i h
theorem run_fld {c f : Str} {ml : M Nat} {Q : Cl → Ev → St → Prop} (h : RunX Y ml e s fun l e1 s1 => ∃ fs x, s1[l]? = some (.ins c fs) ∧ fs.lookup f = some x ∧ Q x e1 s1) : RunX Y (mFld c ml f) e s Q :=
  run_bind (h.mono fun l _ _ ⟨fs, x, h1, h2, h3⟩ => Run.i (by
    dsimp only
    rw [h1]
    dsimp only
    rw [if_pos rfl, h2]
    exact h3))
theorem run_setF {c f : Str} {ml : M Nat} {mc : M Cl} {Q : Fl → Ev → St → Prop} (h : RunX Y mc e s fun x e1 s1 => RunX Y ml e1 s1 fun l e2 s2 => ∃ fs, s2[l]? = some (.ins c fs) ∧ fs.length < 1000 ∧ Q .nx e2 (s2.set l (.ins c (putFC f x fs)))) : RunX Y (mSetF c ml f mc) e s Q :=
  run_bind (h.mono fun _ _ _ h => run_bind (h.mono fun _ _ _ ⟨fs, h1, h2, h3⟩ => Run.i (by
    dsimp only
    rw [h1]
    dsimp only
    rw [if_pos ⟨rfl, h2⟩]
    exact h3)))
theorem run_isIns {c m : Str} {l : Nat} {Q : Nat → Ev → St → Prop} (h : ∃ fs, s[l]? = some (.ins c fs) ∧ fs.lookup m = none ∧ Q l e s) : RunX Y (isIns c m l) e s Q := by
  obtain ⟨fs, h1, h2, h3⟩ := h
  refine Run.i ?_
  unfold isIns
  dsimp only
  rw [h1]
  dsimp only
  rw [if_pos ⟨rfl, h2⟩]
  exact h3
theorem run_meth {c m : Str} {F : Fn} {ml : M Nat} {as : List (M Cl)} {Q : Cl → Ev → St → Prop} (h : RunX Y ml e s fun l e1 s1 => ∃ fs, s1[l]? = some (.ins c fs) ∧ fs.lookup m = none ∧ RunX Y (evA as) e1 s1 fun cs e2 s2 => FRunX NoF F (.lo l :: cs) s2 fun x s3 => Q x e2 s3) : RunX Y (mMeth c m F ml as) e s Q :=
  run_bind (h.mono fun l _ _ ⟨fs, h1, h2, h3⟩ => run_bind (run_isIns ⟨fs, h1, h2, run_bind (h3.mono fun cs e1 s1 h => Run.i (by
    obtain ⟨x, s2, q1, q2⟩ := h.to
    dsimp only
    rw [q1]
    exact q2))⟩))
theorem run_make {c : Str} {F : Fn} {as : List (M Cl)} {Q : Nat → Ev → St → Prop} (h : RunX Y (evA as) e s fun cs e1 s1 => FRunX NoF F (.lo s1.length :: cs) (s1 ++ [.ins c []]) fun x s2 => x = .sh .none ∧ Q s1.length e1 s2) : RunX Y (mMake c F as) e s Q :=
  run_bind (h.mono fun cs e1 s1 h => Run.i (by
    obtain ⟨x, s2, q1, rfl, q2⟩ := h.to
    dsimp only
    rw [q1]
    exact q2))
theorem run_mLock {p : M Nat} {m : M α} {Q : α → Ev → St → Prop} (h : RunX NoY p e s fun l _ _ => ∃ kvs, s[l]? = some (.dt kvs) ∧ RunX NoY m e (s.set l (.ft kvs)) fun x e1 s1 => ∃ kvs', s1[l]? = some (.ft kvs') ∧ Q x e1 (s1.set l (.dt kvs'))) : RunX Y (mLock p m) e s Q := by
  refine Run.i ?_
  unfold mLock
  unfold RunX at h
  cases q : p ⟨e, s⟩ with
  | ok l x =>
    rw [q] at h
    obtain ⟨kvs, h1, h2⟩ := h
    dsimp only
    rw [h1]
    dsimp only
    cases q2 : m ⟨e, s.set l (.ft kvs)⟩ with
    | ok y z =>
      rw [q2] at h2
      obtain ⟨kvs', h3, h4⟩ := h2
      dsimp only
      rw [h3]
      exact h4
    | exc y z => rw [q2] at h2; exact h2.elim
    | bad => rw [q2] at h2; exact h2.elim
  | exc y x => rw [q] at h; exact h.elim
  | bad => rw [q] at h; exact h.elim
theorem run_keysT {ml : M Nat} {Q : List D → Ev → St → Prop} (h : RunX Y ml e s fun l e1 s1 => ∃ kvs, s1[l]? = some (.ft kvs) ∧ Q (keysD kvs) e1 s1) : RunX Y (mKeysT ml) e s Q :=
  run_bind (h.mono fun l _ _ ⟨kvs, h1, h2⟩ => Run.i (by
    dsimp only
    rw [h1]
    exact h2))
theorem run_sortL {Q : D → Ev → St → Prop} (h : RunX Y m e s fun d e1 s1 => ∃ ds, d = .list ds ∧ sortB ds = true ∧ Q (.list (sortD ds)) e1 s1) : RunX Y (mSortL m) e s Q :=
  run_bind (h.mono fun d _ _ ⟨ds, h1, h2, h3⟩ => run_opt ⟨.list (sortD ds), by subst h1; dsimp only; rw [if_pos h2], h3⟩)
theorem run_sortDT {ml : M Nat} {Q : D → Ev → St → Prop} (h : RunX Y ml e s fun l e1 s1 => ∃ kvs, tkAt s1 l = some kvs ∧ sortB (keysD kvs) = true ∧ Q (.list (sortD (keysD kvs))) e1 s1) : RunX Y (mSortDT ml) e s Q :=
  run_bind (h.mono fun l _ _ ⟨kvs, h1, h2, h3⟩ => Run.i (by
    dsimp only
    rw [h1]
    dsimp only
    rw [if_pos h2]
    exact h3))
theorem run_listR1 {Q : D → Ev → St → Prop} (h : RunX Y m e s fun d e1 s1 => ∃ j, d = .int j ∧ (inLine j = true ∧ (j - 0).toNat ≤ 16777216) ∧ Q (.list (rngD 0 (j - 0).toNat)) e1 s1) : RunX Y (mListR1 m) e s Q :=
  run_bind (h.mono fun d _ _ ⟨j, h1, h2, h3⟩ => run_opt ⟨.list (rngD 0 (j - 0).toNat), by subst h1; dsimp only; rw [if_pos h2], h3⟩)
end
/-- all others as they were -/
def Fr (b : Nat) (s s' : St) : Prop := s.length ≤ s'.length ∧ ∀ j, j < s.length → j ≠ b → s'[j]? = s[j]?
theorem Fr.refl (b : Nat) (s : St) : Fr b s s := ⟨Nat.le_refl _, fun _ _ _ => rfl⟩
theorem Fr.trans {b : Nat} {s s1 s2 : St} (h : Fr b s s1) (k : Fr b s1 s2) : Fr b s s2 := ⟨Nat.le_trans h.1 k.1, fun j hj hb => (k.2 j (Nat.lt_of_lt_of_le hj h.1) hb).trans (h.2 j hj hb)⟩
theorem Fr.trim {b : Nat} {c : Cl} {s s' : St} (h : Fr b s s') : Fr b s (trim s.length c s') := ⟨trim_ge h.1, fun j hj hb => (trim_get hj).trans (h.2 j hj hb)⟩
theorem Fr.set {b : Nat} {o : Ob} {s : St} : Fr b s (s.set b o) := ⟨by simp, fun j _ hb => set_other hb⟩
theorem Fr.app {b : Nat} {o : Ob} {s : St} : Fr b s (s ++ [o]) := ⟨by simp, fun j hj _ => app_old hj⟩
theorem Fr.at_ {b l : Nat} {o : Ob} {s s' : St} (h : Fr b s s') (k : s[l]? = some o) (hb : l ≠ b) : s'[l]? = some o := (h.2 l (lt_of_at k) hb).trans k
theorem Fr.put {b l : Nat} {o : Ob} {s0 s : St} (h : Fr b s0 s) (hl : s0.length ≤ l) : Fr b s0 (s.set l o) := ⟨by simpa using h.1, fun j hj hb => (set_other (by omega)).trans (h.2 j hj hb)⟩
/-- the state of the draws -/
def S2 (l : Nat) (s : St) : Prop := ∃ a b : Int, s[l]? = some (.lst [.sh (.int a), .sh (.int b)]) ∧ 0 ≤ a ∧ 0 ≤ b ∧ b < 4294967296
theorem S2.lt {l : Nat} {s : St} (h : S2 l s) : l < s.length := by
  obtain ⟨a, b, h, _⟩ := h
  exact lt_of_at h
theorem S2.of {l : Nat} {s s' : St} (h : S2 l s) (k : s'[l]? = s[l]?) : S2 l s' := by
  obtain ⟨a, b, h, q⟩ := h
  exact ⟨a, b, k.trans h, q⟩
theorem S2.trim {l n : Nat} {k : Cl} {s : St} (h : S2 l s) (hb : l < n) : S2 l (trim n k s) := h.of (trim_get hb)
theorem S2.app {l : Nat} {o : Ob} {s : St} (h : S2 l s) : S2 l (s ++ [o]) := h.of (app_old h.lt)
end Ds
namespace Ds
open PySem PySem.Spec PyProof.Rows L2 Dn
section
variable {α β : Type} {e : Ev} {s : St} {m : M D} {Y : Exn → Ev → St → Prop} {YF : Exn → St → Prop}
theorem RunX.ymono {m : M α} {Y Y' : Exn → Ev → St → Prop} {Q : α → Ev → St → Prop} (h : RunX Y m e s Q) (k : ∀ y e' s', Y y e' s' → Y' y e' s') : RunX Y' m e s Q := by
  unfold RunX at *
  cases q : m ⟨e, s⟩ with
  | ok a x => rw [q] at h; exact h
  | exc y x => rw [q] at h; exact k _ _ _ h
  | bad => rw [q] at h; exact h
theorem RunX.lift {m : M α} {Q : α → Ev → St → Prop} (h : Run m e s Q) : RunX Y m e s Q := RunX.ymono h fun _ _ _ z => z.elim
theorem FRunX.ymono {F : Fn} {as : Ev} {Y Y' : Exn → St → Prop} {Q : Cl → St → Prop} (h : FRunX Y F as s Q) (k : ∀ y s', Y y s' → Y' y s') : FRunX Y' F as s Q := by
  unfold FRunX at *
  cases q : F as s with
  | ok a x => rw [q] at h; exact h
  | exc y x => rw [q] at h; exact k _ _ h
  | bad => rw [q] at h; exact h
theorem FRunX.lift {F : Fn} {as : Ev} {Q : Cl → St → Prop} (h : FRun F as s Q) : FRunX YF F as s Q := FRunX.ymono h fun _ _ z => z.elim
theorem run_callX {F : Fn} {as : List (M Cl)} {Q : Cl → Ev → St → Prop} (h : RunX Y (evA as) e s fun cs e1 s1 => FRunX (fun y s2 => Y y e1 s2) F cs s1 fun c s2 => Q c e1 s2) : RunX Y (mCallX F as) e s Q :=
  run_bind (h.mono fun cs e1 s1 h => Run.i (by
    unfold FRunX at h
    dsimp only
    cases q : F cs s1 with
    | ok c s2 => rw [q] at h; exact h
    | exc y s2 => rw [q] at h; exact h
    | bad => rw [q] at h; exact h))
theorem run_methX {c m : Str} {F : Fn} {ml : M Nat} {as : List (M Cl)} {Q : Cl → Ev → St → Prop} (h : RunX Y ml e s fun l e1 s1 => ∃ fs, s1[l]? = some (.ins c fs) ∧ fs.lookup m = none ∧ RunX Y (evA as) e1 s1 fun cs e2 s2 => FRunX (fun y s3 => Y y e2 s3) F (.lo l :: cs) s2 fun x s3 => Q x e2 s3) : RunX Y (mMethX c m F ml as) e s Q :=
  run_bind (h.mono fun l _ _ ⟨fs, h1, h2, h3⟩ => run_bind (run_isIns ⟨fs, h1, h2, run_bind (h3.mono fun cs e1 s1 h => Run.i (by
    unfold FRunX at h
    dsimp only
    cases q : F (.lo l :: cs) s1 with
    | ok c s2 => rw [q] at h; exact h
    | exc y s2 => rw [q] at h; exact h
    | bad => rw [q] at h; exact h))⟩))
theorem run_raise {x : Str} {Q : Fl → Ev → St → Prop} (h : Y ⟨x, none⟩ e s) : RunX Y (mRaise x) e s Q := Run.i h
theorem run_raiseN {x : Str} {Q : Fl → Ev → St → Prop} (h : RunX Y m e s fun d e1 s1 => ∃ n, d = .int n ∧ Y ⟨x, some n⟩ e1 s1) : RunX Y (mRaiseN x m) e s Q :=
  run_bind (h.mono fun d e1 s1 ⟨n, h1, h2⟩ => Run.i (by
    subst h1
    exact h2))
theorem run_tryAs {i : Nat} {hit : Str → Option Bool} {mb : M Fl} {ms : Exn → M Fl} {Q : Fl → Ev → St → Prop} (h : RunX (fun y e1 s1 => ∃ b, hit y.cls = some b ∧ (b = true → i < e1.length ∧ RunX NoY (ms y) (e1.set i .no) s1 fun fl e2 s2 => Q fl (e2.set i .no) s2) ∧ (b = false → Y y e1 s1)) mb e s Q) : RunX Y (mTryAs i hit mb ms) e s Q := by
  refine Run.i ?_
  unfold mTryAs
  unfold RunX at h
  cases q : mb ⟨e, s⟩ with
  | ok fl x => rw [q] at h; exact h
  | bad => rw [q] at h; exact h
  | exc y x =>
    rw [q] at h
    obtain ⟨b, h1, h2, h3⟩ := h
    dsimp only
    rw [h1]
    cases b with
    | false => exact h3 rfl
    | true =>
      obtain ⟨h4, h5⟩ := h2 rfl
      dsimp only
      rw [if_pos h4]
      cases q2 : ms y ⟨x.e.set i .no, x.s⟩ with
      | ok fl z => rw [q2] at h5; exact h5
      | exc y z => rw [q2] at h5; exact h5.elim
      | bad => rw [q2] at h5; exact h5.elim
theorem run_isB {b : Bool} {Q : D → Ev → St → Prop} (h : Q (.bool b) e s) : RunX Y (mIsB (some b)) e s Q := run_opt ⟨_, rfl, h⟩
theorem run_num {n : Int} {Q : D → Ev → St → Prop} (h : Q (.int n) e s) : RunX Y (mNum (some n)) e s Q := run_opt ⟨_, rfl, h⟩
theorem run_msIf {z : Str} {m1 : Option Int → M Fl} {m2 : Exn → M Fl} {y : Exn} {Q : Fl → Ev → St → Prop} (h1 : y.cls = z → RunX Y (m1 y.num) e s Q) (h2 : ¬ y.cls = z → RunX Y (m2 y) e s Q) : RunX Y (msIf z m1 m2 y) e s Q := by
  unfold msIf
  split
  · exact h1 (by assumption)
  · exact h2 (by assumption)
theorem run_msHit {z : Str} {m1 : Option Int → M Fl} {m2 : Exn → M Fl} {n : Option Int} {Q : Fl → Ev → St → Prop} (h1 : RunX Y (m1 n) e s Q) : RunX Y (msIf z m1 m2 ⟨z, n⟩) e s Q := run_msIf (fun _ => h1) fun k => absurd rfl k
end
end Ds
local macro_rules | `(tactic| walk_at "ds") => `(tactic| first
  | ((with_reducible apply Ds.run_var); (exact rfl))
  | ((with_reducible apply Ds.run_lv); (exact rfl))
  | ((with_reducible apply Ds.run_clD); (exact rfl))
  | ((with_reducible apply Ds.run_clL); (exact rfl))
  | with_reducible refine Ds.run_sh ?_
  | with_reducible refine Ds.run_lo ?_
  | with_reducible refine Ds.run_d ?_
  | with_reducible refine Ds.run_l ?_
  | with_reducible refine Ds.run_c ?_
  | with_reducible refine Ds.run_bin ?_
  | with_reducible refine Ds.run_seq ?_
  | with_reducible refine Ds.seq_nx ?_
  | with_reducible refine Ds.seq_rt ?_
  | with_reducible refine Ds.run_set ?_
  | with_reducible refine Ds.run_ret ?_
  | with_reducible refine Ds.run_ifS ?_
  | with_reducible refine Ds.run_test ?_
  | with_reducible refine Dn.toB_bl ?_
  | with_reducible refine Ds.run_chain ?_
  | with_reducible refine Ds.run_notT ?_
  | with_reducible refine Ds.run_andT ?_
  | with_reducible refine Ds.run_orT ?_
  | with_reducible refine Ds.run_andV ?_
  | with_reducible refine Ds.run_orV ?_
  | with_reducible refine Ds.run_notV ?_
  | with_reducible refine Ds.run_ifE ?_
  | with_reducible refine Ds.run_nx ?_
  | with_reducible refine Ds.run_yes ?_
  | with_reducible refine Ds.run_pure ?_
  | with_reducible refine Ds.run_agC ?_
  | with_reducible refine Ds.run_ag0 ?_
  | with_reducible refine Ds.run_p1 ?_
  | with_reducible refine Ds.run_p0 ?_
  | with_reducible refine Ds.run_callB ?_
  | with_reducible refine Ds.run_callC ?_
  | with_reducible refine Ds.run_call ?_
  | with_reducible refine Ds.run_isi ?_
  | with_reducible refine Ds.run_kin ?_
  | with_reducible refine Ds.run_m1 ?_
  | with_reducible refine Ds.run_m1C ?_
  | with_reducible refine Ds.run_ixC ?_
  | with_reducible refine Ds.run_slC ?_
  | with_reducible refine Ds.run_binC ?_
  | with_reducible refine Ds.run_tup ?_
  | with_reducible refine Ds.run_lst ?_
  | with_reducible refine Ds.run_lsO ?_
  | with_reducible refine Ds.run_fr ?_
  | with_reducible refine Ds.run_new ?_
  | with_reducible refine Ds.run_seal ?_
  | with_reducible refine Ds.run_listOf ?_
  | with_reducible refine Ds.run_tupOf ?_
  | with_reducible refine Ds.run_catO ?_
  | with_reducible refine Ds.run_texts ?_
  | with_reducible refine Ds.run_neg ?_
  | with_reducible refine Ds.run_sl ?_
  | with_reducible refine Ds.run_part ?_
  | with_reducible refine Ds.run_noPart ?_
  | with_reducible refine Ds.run_expr ?_
  | with_reducible refine Ds.run_dget ?_
  | with_reducible refine Ds.run_dput ?_
  | with_reducible refine Ds.run_din ?_
  | with_reducible refine Ds.run_dnew ?_
  | with_reducible refine Ds.run_disp ?_
  | with_reducible refine Ds.run_upd ?_
  | with_reducible refine Ds.run_setIx ?_
  | with_reducible refine Ds.run_app ?_
  | with_reducible refine Ds.run_ext ?_
  | with_reducible refine Ds.run_popAt ?_
  | with_reducible refine Ds.run_asg ?_
  | with_reducible refine Ds.run_iter ?_
  | with_reducible refine Ds.run_rng1 ?_
  | with_reducible refine Ds.run_rng2 ?_
  | with_reducible refine Ds.run_for ?_
  | with_reducible refine Ds.run_enum ?_
  | with_reducible refine Ds.run_zip ?_
  | with_reducible refine Ds.run_rng3 ?_
  | with_reducible refine Ds.run_kget ?_
  | with_reducible refine Ds.run_sortD ?_
  | with_reducible refine Ds.run_dget2 ?_
  | with_reducible refine Ds.run_tget ?_
  | with_reducible refine Ds.run_tget2 ?_
  | with_reducible refine Ds.run_tput ?_
  | with_reducible refine Ds.run_tin ?_
  | with_reducible refine Ds.run_tnew ?_
  | with_reducible refine Ds.run_fld ?_
  | with_reducible refine Ds.run_setF ?_
  | with_reducible refine Ds.run_meth ?_
  | with_reducible refine Ds.run_make ?_
  | with_reducible refine Ds.run_mLock ?_
  | with_reducible refine Ds.run_keysT ?_
  | with_reducible refine Ds.run_sortL ?_
  | with_reducible refine Ds.run_sortDT ?_
  | with_reducible refine Ds.run_listR1 ?_
  | with_reducible refine Ds.run_callX ?_
  | with_reducible refine Ds.run_methX ?_
  | with_reducible refine Ds.run_raise ?_
  | with_reducible refine Ds.run_raiseN ?_
  | with_reducible refine Ds.run_isB ?_
  | with_reducible refine Ds.run_num ?_
  | with_reducible refine Ds.run_forL_nil ?_
  | with_reducible refine Ds.run_comp ?_
  | with_reducible refine Dn.bx_add_int ?_
  | with_reducible refine Dn.bx_sub ?_
  | with_reducible refine Dn.bx_lt ?_
  | with_reducible refine Dn.bx_le ?_
  | with_reducible refine Dn.bx_gt ?_
  | with_reducible refine Dn.bx_ge ?_
  | with_reducible refine Dn.bx_eq_int ?_
  | with_reducible refine Dn.bx_eq_str ?_
  | with_reducible refine Dn.bx_eq_bl ?_
  | with_reducible refine Dn.bx_ne_int ?_
  | with_reducible refine Dn.bx_ne_str ?_
  | with_reducible refine Dn.bx_ne_bl ?_
  | with_reducible refine Dn.bx_in_str ?_
  | with_reducible refine Dn.bx_nin_str ?_
  | with_reducible refine Dn.bx_is_bl ?_
  | with_reducible refine Dn.bx_isNot_bl ?_
  | with_reducible refine Dn.bx_is_non ?_
  | with_reducible refine Dn.bx_isNot_non ?_
  | with_reducible refine Dn.bx_sl_tup ?_
  | with_reducible refine Dn.bx_sl_lst ?_
  | with_reducible refine Dn.bx_neg ?_
  | with_reducible refine Dn.bx_len_lst ?_
  | with_reducible refine Dn.bx_len_tup ?_
  | ((with_reducible apply Dn.bx_len_str); (first | assumption | (apply Dn.line_of; omega)))
  | ((with_reducible apply Dn.bx_mod); (first | assumption | omega))
  | ((with_reducible apply Dn.bx_div); (first | assumption | omega))
  | ((with_reducible apply Dn.bx_mul); (first | assumption | omega))
  | ((with_reducible apply Dn.bx_pow); (decide))
  | ((with_reducible apply Dn.bx_rep); (first | assumption | (refine ⟨?_, ?_, of_decide_eq_true rfl⟩ <;> omega)))
  | ((with_reducible apply Dn.bx_add_str); (first | assumption | (apply Dn.line_of; omega)))
  | ((with_reducible apply Dn.bx_sl_str); (first | assumption | (apply Dn.line_of; omega)))
  | ((with_reducible apply Dn.bx_rng1); (first | assumption | (apply Dn.inLine_of; omega)))
  | ((with_reducible apply Dn.bx_isi_str); (first | assumption | rfl))
  | ((with_reducible apply Dn.bx_isi_bool); (first | assumption | rfl))
  | ((with_reducible apply Dn.bx_isi_int); (first | assumption | rfl))
  | ((with_reducible apply Dn.bx_isi_tup); (first | assumption | rfl))
  | with_reducible refine Dn.bx_int_int ?_
  | with_reducible refine Dn.bx_int_bl ?_
  | with_reducible refine Dn.bx_II ?_
  | with_reducible refine Dn.bx_tuple_lst ?_
  | with_reducible refine Dn.bx_tuple_tup ?_
  | with_reducible refine Dn.bx_list_lst ?_
  | with_reducible refine Dn.bx_list_tup ?_
  | with_reducible refine Dn.bx_it_lst ?_
  | with_reducible refine Dn.bx_it_tup ?_
  | with_reducible refine Dn.bx_it_str ?_
  | with_reducible refine Dn.two_dT ?_
  | with_reducible refine Dn.two_not ?_
  | with_reducible refine Dn.two_T ?_
  | with_reducible refine Dn.two_F ?_
  | (with_reducible refine Ds.two_Tb (by decide) ?_)
  | (with_reducible refine Ds.two_Fb (by decide) ?_)
  | with_reducible refine Ds.fin_rt ?_
  | with_reducible refine Ds.fin_nx ?_
  | with_reducible refine Ds.turn_nx ?_
  | with_reducible refine Ds.turn_ct ?_
  | with_reducible refine Ds.turn_bk ?_
  | with_reducible refine Ds.turn_rt ?_
  | with_reducible refine Dn.flat_int ?_
  | with_reducible refine Dn.flat_str ?_
  | with_reducible refine Dn.flat_bl ?_
  | (refine ⟨_, rfl, Nat.le_of_ble_eq_true rfl, ?_⟩)
  | (refine ⟨Nat.le_of_ble_eq_true rfl, ?_⟩)
  | (refine ⟨_, rfl, ?_⟩))
namespace Ds.K45
open PySem PySem.Spec PyProof.Rows L2 Dn
def c_GREATEST : D := (PyData.int 9999)
def c_REST : D := (PyData.int 10007)
def m_is_below : M Fl := (mRet (mSh (mAndV (mIsi "int" (mVar 0)) (mAndV (mNotV (mIsi "bool" (mVar 0))) (mChain dLe dLt (mC (PyData.int 0)) (mVar 0) (mVar 1))))))
def f_is_below : Fn := fnF 2 2 m_is_below
def m_word_of : M Fl := (mSeq (mIfS (mTest (mBin dEq (mBin dIx (mVar 0) (mC (PyData.int 0))) (mC (PyData.str "lay")))) (mRet (mSh (mTup [(mSh (mC (PyData.str "copy"))), (mSh (mTup [(mSh (mC (PyData.str "slot"))), (mSh (mBin dIx (mVar 0) (mC (PyData.int 1))))])), (mSh (mTup [(mSh (mC (PyData.str "hand"))), (mSh (mBin dIx (mVar 0) (mC (PyData.int 2))))]))]))) mNx)
  (mSeq (mIfS (mTest (mBin dEq (mBin dIx (mVar 0) (mC (PyData.int 0))) (mC (PyData.str "fetch")))) (mRet (mSh (mTup [(mSh (mC (PyData.str "copy"))), (mSh (mTup [(mSh (mC (PyData.str "hand"))), (mSh (mBin dIx (mVar 0) (mC (PyData.int 1))))])), (mSh (mTup [(mSh (mC (PyData.str "slot"))), (mSh (mBin dIx (mVar 0) (mC (PyData.int 2))))]))]))) mNx)
  (mSeq (mIfS (mTest (mBin dEq (mBin dIx (mVar 0) (mC (PyData.int 0))) (mC (PyData.str "clean")))) (mRet (mSh (mTup [(mSh (mC (PyData.str "wipe"))), (mSh (mTup [(mSh (mC (PyData.str "slot"))), (mSh (mBin dIx (mVar 0) (mC (PyData.int 1))))]))]))) mNx)
  (mSeq (mIfS (mTest (mBin dIn (mBin dIx (mVar 0) (mC (PyData.int 0))) (mTup [(mSh (mC (PyData.str "take"))), (mSh (mC (PyData.str "number")))]))) (mRet (mSh (mTup [(mSh (mBin dIx (mVar 0) (mC (PyData.int 0)))), (mSh (mTup [(mSh (mC (PyData.str "hand"))), (mSh (mBin dIx (mVar 0) (mC (PyData.int 1))))])), (mSh (mBin dIx (mVar 0) (mC (PyData.int 2))))]))) mNx)
  (mRet (mSh (mBin dAdd (mSl (mVar 0) mNoPart (mPart (mC (PyData.int 1)))) (mCallB bTuple [(mSh (mFr (mComp (mIter (mSl (mVar 0) (mPart (mC (PyData.int 1))) mNoPart)) [1] (mgName 1) mYes (mTup [(mSh (mC (PyData.str "hand"))), (mSh (mVar 1))]))))]))))))))
def f_word_of : Fn := fnF 1 2 m_word_of
def m_number_behind : M Fl := (mSeq (mIfS (mTest (mBin dEq (mBin dIx (mVar 0) (mC (PyData.int 0))) (mC (PyData.str "copy")))) (mRet (mSh (mBin dIx (mVar 1) (mC (PyData.int 0))))) mNx)
  (mSeq (mIfS (mTest (mBin dEq (mBin dIx (mVar 0) (mC (PyData.int 0))) (mC (PyData.str "mix")))) (mRet (mSh (mBin dMod (mBin dAdd (mBin dIx (mVar 1) (mC (PyData.int 0))) (mBin dMul (mC (PyData.int 2)) (mBin dIx (mVar 1) (mC (PyData.int 1))))) (mC c_REST)))) mNx)
  (mRet (mSh (mBin dMod (mBin dIx (mVar 1) (mC (PyData.int 0))) (mC (PyData.int 2)))))))
def f_number_behind : Fn := fnF 2 2 m_number_behind
def m_answer_at : M Fl := (mSeq (mIfS (mOrT (mTest (mBin dGe (mVar 1) (mCallB bLen [(mSh (mVar 0))]))) (mNotT (mTest (mD (mCall f_is_below [(mSh (mBin dIx (mVar 0) (mVar 1))), (mSh (mBin dAdd (mC c_GREATEST) (mC (PyData.int 1))))]))))) (mRaiseN "NoAnswer" (mVar 1)) mNx)
  (mRet (mSh (mBin dIx (mVar 0) (mVar 1)))))
def f_answer_at : Fn := fnF 2 2 m_answer_at
def m_worths_of : M Fl := (mSeq (mSet 2 (mLo (mNew (mLsO []))))
  (mSeq (mIfS (mTest (mBin dNe (mBin dIx (mVar 0) (mC (PyData.int 0))) (mC (PyData.str "open")))) (mFor (mIter (mVar 1)) (mgTup 2 (mgCons (mgName 3) (mgCons (mgName 4) mgNil))) (mExt (mLV 2) (mSh (mVar 4)))) mNx)
  (mRet (mSh (mSeal (mLV 2))))))
def f_worths_of : Fn := fnF 2 5 m_worths_of
def m_Holding_held : M Fl := (mRet (mSh (mD (mTGet2 (mL (mFld "Holding" (mLV 0) "holds")) (mVar 1) (mSh (mTup [(mSh (mD (mFld "Holding" (mLV 0) "nought"))), (mSh (mTup []))]))))))
def f_Holding_held : Fn := fnF 2 2 m_Holding_held
def m_Holding_lay : M Fl := (mTPut (mL (mFld "Holding" (mLV 0) "holds")) (mVar 1) (mSh (mTup [(mSh (mVar 2)), (mSh (mCallB bTuple [(mSh (mTexts (fun l => .list ((sortT l).map PyData.str)) (mSh (mVar 3))))]))])))
def f_Holding_lay : Fn := fnF 4 4 m_Holding_lay
def m_done : M Fl := (mIfS (mTest (mBin dIn (mBin dIx (mVar 1) (mC (PyData.int 0))) (mTup [(mSh (mC (PyData.str "take"))), (mSh (mC (PyData.str "ask")))]))) (mSeq (mSet 4 (mSh (mIfE (mTest (mBin dEq (mBin dIx (mVar 1) (mC (PyData.int 0))) (mC (PyData.str "take")))) (mTup [(mSh (mBin dIx (mVar 1) (mC (PyData.int 2))))]) (mTup []))))
  (mSeq (mExpr (mSh (mD (mMeth "Holding" "lay" f_Holding_lay (mLV 0) [(mSh (mBin dIx (mVar 1) (mC (PyData.int 1)))), (mSh (mD (mCallX f_answer_at [(mSh (mVar 2)), (mSh (mD (mDGet (mLV 3) (mC (PyData.str "answers")))))]))), (mSh (mVar 4))]))))
  (mDPut (mLV 3) (mC (PyData.str "answers")) (mSh (mBin dAdd (mD (mDGet (mLV 3) (mC (PyData.str "answers")))) (mC (PyData.int 1))))))) (mIfS (mTest (mBin dEq (mBin dIx (mVar 1) (mC (PyData.int 0))) (mC (PyData.str "number")))) (mExpr (mSh (mD (mMeth "Holding" "lay" f_Holding_lay (mLV 0) [(mSh (mBin dIx (mVar 1) (mC (PyData.int 1)))), (mSh (mBin dIx (mVar 1) (mC (PyData.int 2)))), (mSh (mTup []))])))) (mIfS (mTest (mBin dEq (mBin dIx (mVar 1) (mC (PyData.int 0))) (mC (PyData.str "tell")))) (mApp (mL (mDGet (mLV 3) (mC (PyData.str "numbers")))) (mSh (mBin dIx (mD (mMeth "Holding" "held" f_Holding_held (mLV 0) [(mSh (mBin dIx (mVar 1) (mC (PyData.int 1))))])) (mC (PyData.int 0))))) (mIfS (mTest (mBin dEq (mBin dIx (mVar 1) (mC (PyData.int 0))) (mC (PyData.str "wipe")))) (mExpr (mSh (mD (mMeth "Holding" "lay" f_Holding_lay (mLV 0) [(mSh (mBin dIx (mVar 1) (mC (PyData.int 1)))), (mSh (mC (PyData.int 0))), (mSh (mTup []))])))) (mSeq (mSet 5 (mSh (mFr (mComp (mIter (mSl (mVar 1) (mPart (mC (PyData.int 2))) mNoPart)) [6] (mgName 6) mYes (mD (mMeth "Holding" "held" f_Holding_held (mLV 0) [(mSh (mVar 6))]))))))
  (mExpr (mSh (mD (mMeth "Holding" "lay" f_Holding_lay (mLV 0) [(mSh (mBin dIx (mVar 1) (mC (PyData.int 1)))), (mSh (mD (mCall f_number_behind [(mSh (mVar 1)), (mSh (mFr (mComp (mIter (mVar 5)) [7, 8] (mgTup 2 (mgCons (mgName 7) (mgCons (mgName 8) mgNil))) mYes (mVar 7))))]))), (mSh (mD (mCall f_worths_of [(mSh (mVar 1)), (mSh (mVar 5))])))])))))))))
def f_done : Fn := fnF 4 9 m_done
def m_Holding___init__ : M Fl := (mSeq (mSetF "Holding" (mLV 0) "nought" (mSh (mVar 1)))
  (mSetF "Holding" (mLV 0) "holds" (mLo mTNew)))
def f_Holding___init__ : Fn := fnF 2 2 m_Holding___init__
def m_Holding_kept : M Fl := (mRet (mSh (mFr (mLock (mL (mFld "Holding" (mLV 0) "holds")) (mComp (mKeysT (mL (mFld "Holding" (mLV 0) "holds"))) [1] (mgName 1) (mTest (mBin dNe (mBin dIx (mD (mTGet (mL (mFld "Holding" (mLV 0) "holds")) (mVar 1))) (mC (PyData.int 1))) (mTup []))) (mVar 1))))))
def f_Holding_kept : Fn := fnF 1 2 m_Holding_kept
def m_run_code : M Fl := (mSeq (mSet 2 (mLo (mMake "Holding" f_Holding___init__ [(mSh (mC (PyData.int 0)))])))
  (mSeq (mSet 3 (mLo (mDisp [((mC (PyData.str "answers")), (mSh (mC (PyData.int 0)))), ((mC (PyData.str "numbers")), (mLo (mNew (mLsO []))))])))
  (mSeq (mFor (mIter (mVar 0)) (mgName 4) (mExpr (mSh (mD (mCallX f_done [(mLo (mLV 2)), (mSh (mD (mCall f_word_of [(mSh (mVar 4))]))), (mSh (mVar 1)), (mLo (mLV 3))])))))
  (mSeq (mSet 5 (mSh (mFr (mComp (mIter (mSortL (mD (mMeth "Holding" "kept" f_Holding_kept (mLV 2) [])))) [6] (mgName 6) mYes (mBin dAdd (mVar 6) (mTup [(mSh (mBin dIx (mD (mMeth "Holding" "held" f_Holding_held (mLV 2) [(mSh (mVar 6))])) (mC (PyData.int 1))))]))))))
  (mRet (mSh (mTup [(mSh (mTupOf (mLo (mL (mDGet (mLV 3) (mC (PyData.str "numbers"))))))), (mSh (mCallB bTuple [(mSh (mVar 5))]))])))))))
def f_run_code : Fn := fnF 2 7 m_run_code
def m__law_cell_at : M Fl := (mSeq (mIfS (mTest (mBin dLt (mVar 1) (mCallB bLen [(mSh (mVar 0))]))) (mRet (mSh (mBin dIx (mVar 0) (mVar 1)))) mNx)
  (mRet (mSh (mC (PyData.int 0)))))
def f__law_cell_at : Fn := fnF 2 2 m__law_cell_at
def m__law_begin : M Fl := (mSeq (mSet 1 (mSh (mBin dAdd (mBin dAdd (mBin dMod (mVar 0) (mC (PyData.int 2147483647))) (mBin dMod (mBin dDiv (mVar 0) (mC (PyData.int 2147483647))) (mC (PyData.int 1000003)))) (mC (PyData.int 3)))))
  (mSeq (mIfS (mTest (mBin dLt (mVar 0) (mBin dPow (mC (PyData.int 10)) (mC (PyData.int 18))))) (mRet (mLo (mNew (mLsO [(mSh (mC (PyData.int 0))), (mSh (mVar 1))])))) mNx)
  (mRet (mLo (mNew (mLsO [(mSh (mVar 0)), (mSh (mVar 1))]))))))
def f__law_begin : Fn := fnF 1 2 m__law_begin
def m__law_draw : M Fl := (mSeq (mIfS (mTest (mBin dGt (mD (mIxC (mLo (mLV 0)) (mC (PyData.int 0)))) (mC (PyData.int 0)))) (mSeq (mSet 3 (mSh (mBin dMod (mD (mIxC (mLo (mLV 0)) (mC (PyData.int 0)))) (mVar 1))))
  (mSeq (mSetIx (mLV 0) (mC (PyData.int 0)) (mSh (mBin dDiv (mD (mIxC (mLo (mLV 0)) (mC (PyData.int 0)))) (mVar 1))))
  (mRet (mSh (mVar 3))))) mNx)
  (mSeq (mSet 2 (mSh (mBin dMod (mBin dAdd (mBin dMul (mD (mIxC (mLo (mLV 0)) (mC (PyData.int 1)))) (mC (PyData.int 48271))) (mC (PyData.int 11))) (mC (PyData.int 2147483629)))))
  (mSeq (mSetIx (mLV 0) (mC (PyData.int 1)) (mSh (mBin dMod (mBin dAdd (mBin dMul (mVar 2) (mC (PyData.int 69621))) (mC (PyData.int 7))) (mC (PyData.int 2147483587)))))
  (mRet (mSh (mBin dMod (mBin dDiv (mBin dMod (mBin dAdd (mBin dMul (mD (mIxC (mLo (mLV 0)) (mC (PyData.int 1)))) (mC (PyData.int 16807))) (mC (PyData.int 3))) (mC (PyData.int 2147483579))) (mC (PyData.int 8))) (mVar 1)))))))
def f__law_draw : Fn := fnF 2 4 m__law_draw
def m__law_order : M Fl := (mSeq (mAsg (mgLst 3 (mgCons (mgName 3) (mgCons (mgName 4) (mgCons (mgName 5) mgNil)))) (mSh (mFr (mComp (mRng1 (mC (PyData.int 3))) [6] (mgName 6) mYes (mD (mCall f__law_draw [(mLo (mLV 0)), (mSh (mVar 1))]))))))
  (mSeq (mSet 2 (mSh (mLst [(mSh (mTup [(mSh (mC (PyData.str "take"))), (mSh (mVar 3)), (mSh (mC (PyData.str "key")))])), (mSh (mTup [(mSh (mC (PyData.str "ask"))), (mSh (mVar 3))])), (mSh (mTup [(mSh (mC (PyData.str "ask"))), (mSh (mVar 3))])), (mSh (mTup [(mSh (mC (PyData.str "take"))), (mSh (mVar 3)), (mSh (mC (PyData.str "pin")))])), (mSh (mTup [(mSh (mC (PyData.str "number"))), (mSh (mVar 3)), (mSh (mC (PyData.int 5)))])), (mSh (mTup [(mSh (mC (PyData.str "copy"))), (mSh (mVar 3)), (mSh (mVar 4))]))])))
  (mSeq (mSet 2 (mSh (mBin dAdd (mVar 2) (mLst [(mSh (mTup [(mSh (mC (PyData.str "mix"))), (mSh (mVar 3)), (mSh (mVar 4)), (mSh (mVar 5))])), (mSh (mTup [(mSh (mC (PyData.str "tell"))), (mSh (mVar 3))])), (mSh (mTup [(mSh (mC (PyData.str "wipe"))), (mSh (mVar 3))])), (mSh (mTup [(mSh (mC (PyData.str "lay"))), (mSh (mD (mCall f__law_draw [(mLo (mLV 0)), (mSh (mC (PyData.int 60)))]))), (mSh (mVar 3))])), (mSh (mTup [(mSh (mC (PyData.str "open"))), (mSh (mVar 3)), (mSh (mVar 4))]))]))))
  (mRet (mSh (mBin dIx (mVar 2) (mD (mCall f__law_draw [(mLo (mLV 0)), (mSh (mCallB bLen [(mSh (mVar 2))]))]))))))))
def f__law_order : Fn := fnF 2 7 m__law_order
def m__law_refused : M Fl := (mSeq (mSet 2 (mSh (mC PyData.none)))
  (mSeq (mTryAs 3 (hitOf [("NoAnswer", true)]) (mExpr (mSh (mD (mCallX f_run_code [(mSh (mVar 0)), (mSh (mVar 1))])))) (msIf "NoAnswer" (fun num => (mSeq (mSet 2 (mSh (mC (PyData.str "other"))))
  (mSeq (mSet 4 (mSh (mIsB (some false))))
  (mIfS (mAndT (mTest (mIsB (some true))) (mAndT (mTest (mIsB (some true))) (mNotT (mTest (mVar 4))))) (mSet 2 (mSh (mNum num))) mNx)))) msBad))
  (mRet (mSh (mVar 2)))))
def f__law_refused : Fn := fnF 2 5 m__law_refused
def m__law_is_number : M Fl := (mRet (mSh (mAndV (mIsi "int" (mVar 0)) (mAndV (mNotV (mIsi "bool" (mVar 0))) (mBin dEq (mVar 0) (mVar 1))))))
def f__law_is_number : Fn := fnF 2 2 m__law_is_number
def m_law : M Fl := (mSeq (mFor (mRng1 (mCallB (bII fun i j => if j > i then j else i) [(mSh (mC (PyData.int 1))), (mSh (mCallB (bII fun i j => if j < i then j else i) [(mSh (mC (PyData.int 4))), (mSh (mCallB bLen [(mSh (mVar 0))]))]))])) (mgName 1) (mSeq (mSet 2 (mLo (mL (mCall f__law_begin [(mSh (mD (mCall f__law_cell_at [(mSh (mVar 0)), (mSh (mVar 1))])))]))))
  (mSeq (mSet 3 (mSh (mBin dAdd (mC (PyData.int 3)) (mD (mCall f__law_draw [(mLo (mLV 2)), (mSh (mC (PyData.int 6)))])))))
  (mSeq (mSet 4 (mSh (mBin dAdd (mCallB bTuple [(mSh (mFr (mComp (mRng1 (mD (mCall f__law_draw [(mLo (mLV 2)), (mSh (mC (PyData.int 21)))]))) [15] (mgName 15) mYes (mD (mCall f__law_order [(mLo (mLV 2)), (mSh (mVar 3))])))))]) (mTup [(mSh (mTup [(mSh (mC (PyData.str "ask"))), (mSh (mC (PyData.int 0)))])), (mSh (mTup [(mSh (mC (PyData.str "tell"))), (mSh (mC (PyData.int 0)))]))]))))
  (mSeq (mSet 5 (mSh (mCallB bLen [(mSh (mFr (mComp (mIter (mVar 4)) [14] (mgName 14) (mTest (mBin dIn (mBin dIx (mVar 14) (mC (PyData.int 0))) (mTup [(mSh (mC (PyData.str "take"))), (mSh (mC (PyData.str "ask")))]))) (mVar 14))))])))
  (mSeq (mSet 6 (mSh (mCallB bTuple [(mSh (mFr (mComp (mRng1 (mVar 5)) [15] (mgName 15) mYes (mD (mCall f__law_draw [(mLo (mLV 2)), (mSh (mC (PyData.int 10000)))])))))])))
  (mSeq (mSet 7 (mSh (mLst [(mSh (mC (PyData.int 10000))), (mSh (mNeg (mC (PyData.int 1)))), (mSh (mBin dAdd (mBin dPow (mC (PyData.int 10)) (mC (PyData.int 12))) (mD (mCall f__law_draw [(mLo (mLV 2)), (mSh (mC (PyData.int 9)))])))), (mSh (mC (PyData.bool true))), (mSh (mC PyData.none)), (mSh (mC (PyData.str "5"))), (mSh (mTup [(mSh (mC (PyData.int 1)))])), (mSh (mC (PyData.bool false)))])))
  (mSeq (mIfS (mTest (mBin dNe (mD (mCallX f_run_code [(mSh (mVar 4)), (mSh (mVar 6))])) (mD (mCallX f_run_code [(mSh (mVar 4)), (mSh (mBin dAdd (mVar 6) (mTup [(mSh (mBin dIx (mVar 7) (mD (mCall f__law_draw [(mLo (mLV 2)), (mSh (mC (PyData.int 8)))]))))])))])))) (mRet (mSh (mC (PyData.bool false)))) mNx)
  (mFor (mRng1 (mC (PyData.int 4))) (mgName 8) (mSeq (mSet 9 (mSh (mD (mCall f__law_draw [(mLo (mLV 2)), (mSh (mVar 5))]))))
  (mSeq (mSet 10 (mSh (mSl (mVar 6) mNoPart (mPart (mVar 9)))))
  (mSeq (mSet 11 (mSh (mBin dAdd (mBin dAdd (mVar 10) (mTup [(mSh (mBin dIx (mVar 7) (mD (mCall f__law_draw [(mLo (mLV 2)), (mSh (mC (PyData.int 8)))]))))])) (mSl (mVar 6) (mPart (mBin dAdd (mVar 9) (mC (PyData.int 1)))) mNoPart))))
  (mSeq (mSet 12 (mSh (mBin dAdd (mSl (mVar 11) mNoPart (mPart (mBin dAdd (mVar 9) (mC (PyData.int 1))))) (mCallB bTuple [(mSh (mFr (mComp (mRng1 (mD (mCall f__law_draw [(mLo (mLV 2)), (mSh (mC (PyData.int 3)))]))) [15] (mgName 15) mYes (mBin dIx (mVar 7) (mD (mCall f__law_draw [(mLo (mLV 2)), (mSh (mC (PyData.int 8)))]))))))]))))
  (mSeq (mFor (mIter (mTup [(mSh (mVar 10)), (mSh (mVar 11)), (mSh (mVar 12)), (mSh (mVar 10))])) (mgName 13) (mIfS (mNotT (mTest (mD (mCall f__law_is_number [(mSh (mD (mCall f__law_refused [(mSh (mVar 4)), (mSh (mVar 13))]))), (mSh (mVar 9))])))) (mRet (mSh (mC (PyData.bool false)))) mNx))
  (mIfS (mTest (mBin dIsNot (mD (mCall f__law_refused [(mSh (mVar 4)), (mSh (mVar 6))])) (mC PyData.none))) (mRet (mSh (mC (PyData.bool false)))) mNx)))))))))))))))
  (mRet (mSh (mC (PyData.bool true)))))
def f_law : Fn := fnF 1 16 m_law
/-- the law is True at every script: said upon data -/
def Good : Prop := ∀ ns : List Int, ns.length ≤ 63 → ∃ s, f_law [.sh (.list (ns.map PyData.int))] [] = .ok (.sh (.bool true)) s
end Ds.K45
namespace Ds.K45
open PySem PySem.Spec PyProof.Rows L2 Dn TL
def srt (L : List Str) : List Str := sortT (metT L)
theorem srt_mem {L : List Str} {x : Str} : x ∈ srt L ↔ x ∈ L := by
  unfold srt sortT
  rw [List.mem_mergeSort, mem_metT]
theorem srt_len {L : List Str} : (srt L).length ≤ L.length := by
  unfold srt sortT
  rw [List.length_mergeSort]
  exact metT_len L
theorem srt_same {L M : List Str} (h : ∀ x, x ∈ L ↔ x ∈ M) : srt L = srt M := sortT_same h
def W6 : List Str := ["key", "a", "pin", "b", "zz", "done"]
/-- some of the six, rising, each once -/
def Wl (ws : List Str) : Prop := ∃ p : Str → Bool, ws = srt (W6.filter p)
theorem srt_nil : srt [] = [] := List.length_eq_zero_iff.mp (Nat.le_zero.mp (srt_len (L := [])))
theorem srt_one {w : Str} : srt [w] = [w] := by
  have h1 : (srt [w]).length ≤ 1 := srt_len
  have h2 : w ∈ srt [w] := srt_mem.mpr (by simp)
  match srt [w], h1, h2 with
  | [x], _, h2 => simp at h2; rw [h2]
  | _ :: _ :: _, h1, _ => simp at h1
theorem filter_none (L : List Str) : L.filter (fun _ => false) = [] := by simp
theorem Wl.nil : Wl [] := ⟨fun _ => false, by rw [filter_none, srt_nil]⟩
theorem Wl.one {w : Str} (h : w ∈ W6) : Wl [w] := by
  refine ⟨fun x => decide (x = w), ?_⟩
  have e : srt (W6.filter fun x => decide (x = w)) = srt [w] := srt_same fun x => by
    rw [List.mem_filter, List.mem_singleton]
    refine ⟨fun z => of_decide_eq_true z.2, fun z => ⟨z ▸ h, decide_eq_true z⟩⟩
  rw [e, srt_one]
theorem Wl.len {ws : List Str} (h : Wl ws) : ws.length ≤ 6 := by
  obtain ⟨p, rfl⟩ := h
  exact Nat.le_trans srt_len (List.length_filter_le _ _)
theorem Wl.fix {ws : List Str} (h : Wl ws) : srt ws = ws := by
  obtain ⟨p, rfl⟩ := h
  exact srt_same fun x => srt_mem
theorem Wl.app {ws vs : List Str} (h : Wl ws) (k : Wl vs) : Wl (srt (ws ++ vs)) := by
  obtain ⟨p, rfl⟩ := h
  obtain ⟨q, rfl⟩ := k
  refine ⟨fun x => p x || q x, srt_same fun x => ?_⟩
  rw [List.mem_append, srt_mem, srt_mem, List.mem_filter, List.mem_filter, List.mem_filter, Bool.or_eq_true]
  constructor
  · rintro (⟨a, b⟩ | ⟨a, b⟩)
    · exact ⟨a, .inl b⟩
    · exact ⟨a, .inr b⟩
  · rintro ⟨a, b | b⟩
    · exact .inl ⟨a, b⟩
    · exact .inr ⟨a, b⟩
theorem Wl.ok {ws : List Str} (h : Wl ws) : ∀ x ∈ ws, Ok 10 x := fun x hx => by
  obtain ⟨p, rfl⟩ := h
  have := (List.mem_filter.mp (srt_mem.mp hx)).1
  simp [W6] at this
  rcases this with rfl | rfl | rfl | rfl | rfl | rfl <;> exact Ok.lit _ _ (by decide)
abbrev Ky := Bool × Int
abbrev Vl := Int × List Str
abbrev Hd := List (Ky × Vl)
def keyP (k : Ky) : List Key := [.inr (if k.1 then "slot" else "hand"), .inl k.2]
theorem keyP_inj {k j : Ky} (h : keyP k = keyP j) : k = j := by
  obtain ⟨a, i⟩ := k
  obtain ⟨b, n⟩ := j
  cases a <;> cases b <;> simp [keyP] at h
  · rw [h]
  · exact absurd h.1 (by decide)
  · exact absurd h.1 (by decide)
  · rw [h]
def valD (v : Vl) : D := .tuple [.int v.1, .tuple (v.2.map PyData.str)]
def kvE (f : Ky → List Key) (A : Hd) : List (List Key × Cl) := A.map fun p => (f p.1, .sh (valD p.2))
def lookA (A : Hd) (k : Ky) : Option Vl := (A.find? fun p => decide (p.1 = k)).map (·.2)
def putA (A : Hd) (k : Ky) (v : Vl) : Hd := if (A.any fun p => decide (p.1 = k)) = true then A.map (fun p => if p.1 = k then (p.1, v) else p) else A ++ [(k, v)]
def heldA (A : Hd) (k : Ky) : Vl := (lookA A k).getD (0, [])
theorem val_kvE {f : Ky → List Key} (inj : ∀ {k j}, f k = f j → k = j) (A : Hd) (k : Ky) : valC (kvE f A) (f k) = (lookA A k).map fun v => .sh (valD v) := by
  induction A with
  | nil => rfl
  | cons p A ih =>
    by_cases h : p.1 = k
    · simp [kvE, valC, lookA, h]
    · have h2 : ¬ f p.1 = f k := fun z => h (inj z)
      have e1 : valC (kvE f (p :: A)) (f k) = valC (kvE f A) (f k) := by simp [kvE, valC, List.find?_cons, h2]
      have e2 : lookA (p :: A) k = lookA A k := by simp [lookA, List.find?_cons, h]
      rw [e1, e2, ih]
theorem held_kvE {f : Ky → List Key} (inj : ∀ {k j}, f k = f j → k = j) (A : Hd) (k : Ky) : (valC (kvE f A) (f k)).getD (.sh (valD (0, []))) = .sh (valD (heldA A k)) := by
  rw [val_kvE inj]
  unfold heldA
  cases lookA A k <;> rfl
theorem put_kvE {f : Ky → List Key} (inj : ∀ {k j}, f k = f j → k = j) (A : Hd) (k : Ky) (v : Vl) : putC (kvE f A) (f k) (.sh (valD v)) = kvE f (putA A k v) := by
  have e1 : ((kvE f A).any fun kv => decide (kv.1 = f k)) = A.any fun p => decide (p.1 = k) := by
    unfold kvE
    rw [List.any_map]
    congr 1
    funext p
    exact decide_eq_decide.mpr ⟨fun h => inj h, fun h => congrArg f h⟩
  unfold putC putA
  rw [e1]
  split
  · unfold kvE
    rw [List.map_map, List.map_map]
    refine List.map_congr_left fun p _ => ?_
    show (if f p.1 = f k then (f p.1, Cl.sh (valD v)) else (f p.1, Cl.sh (valD p.2))) = (f (if p.1 = k then (p.1, v) else p).1, Cl.sh (valD (if p.1 = k then (p.1, v) else p).2))
    by_cases h : p.1 = k
    · rw [if_pos (congrArg f h), if_pos h]
    · rw [if_neg (fun z => h (inj z)), if_neg h]
  · unfold kvE
    rw [List.map_append]
    rfl
theorem kvE_len {f : Ky → List Key} {A : Hd} : (kvE f A).length = A.length := by unfold kvE; rw [List.length_map]
theorem putA_len {A : Hd} {k : Ky} {v : Vl} : (putA A k v).length ≤ A.length + 1 := by
  unfold putA
  split
  · rw [List.length_map]; omega
  · rw [List.length_append]; exact Nat.le_refl _
theorem putA_keys {A : Hd} {k : Ky} {v : Vl} (h : (A.map (·.1)).Nodup) : ((putA A k v).map (·.1)).Nodup := by
  unfold putA
  split
  · rw [List.map_map]
    have e : ((fun p : Ky × Vl => p.1) ∘ fun p => if p.1 = k then (p.1, v) else p) = fun p : Ky × Vl => p.1 := by
      funext p
      show (if p.1 = k then (p.1, v) else p).1 = p.1
      split <;> rfl
    rw [e]
    exact h
  · rename_i hn
    rw [List.map_append]
    refine List.nodup_append.mpr ⟨h, by simp, fun x hx y hy => ?_⟩
    simp at hy
    subst hy
    intro z
    subst z
    obtain ⟨p, hp, e⟩ := List.mem_map.mp hx
    exact hn (List.any_eq_true.mpr ⟨p, hp, decide_eq_true e⟩)
theorem putA_mem {A : Hd} {k : Ky} {v : Vl} {p : Ky × Vl} (h : p ∈ putA A k v) : p ∈ A ∨ p.2 = v := by
  unfold putA at h
  split at h
  · obtain ⟨q, hq, e⟩ := List.mem_map.mp h
    by_cases z : q.1 = k
    · rw [if_pos z] at e; subst e; exact .inr rfl
    · rw [if_neg z] at e; subst e; exact .inl hq
  · rcases List.mem_append.mp h with h | h
    · exact .inl h
    · simp at h; subst h; exact .inr rfl
theorem look_mem {A : Hd} {k : Ky} {v : Vl} (h : lookA A k = some v) : (k, v) ∈ A := by
  obtain ⟨p, h1, rfl⟩ := Option.map_eq_some_iff.mp h
  have h2 := List.mem_of_find?_eq_some h1
  have h3 : p.1 = k := of_decide_eq_true (List.find?_some (p := fun p : Ky × Vl => decide (p.1 = k)) h1)
  subst h3
  exact h2
theorem look_of {A : Hd} {k : Ky} {v : Vl} (hn : (A.map (·.1)).Nodup) (h : (k, v) ∈ A) : lookA A k = some v := by
  induction A with
  | nil => cases h
  | cons p A ih =>
    rw [List.map_cons, List.nodup_cons] at hn
    rcases List.mem_cons.mp h with e | h
    · subst e
      simp [lookA]
    · have hne : ¬ p.1 = k := fun z => hn.1 (List.mem_map.mpr ⟨(k, v), h, z.symm⟩)
      have e2 : lookA (p :: A) k = lookA A k := by simp [lookA, List.find?_cons, hne]
      rw [e2]
      exact ih hn.2 h
/-- what stands in it -/
structure HdOk (c : Nat) (A : Hd) : Prop where
  nd : (A.map (·.1)).Nodup
  len : A.length ≤ c
  ws : ∀ p ∈ A, Wl p.2.2
theorem HdOk.held {c : Nat} {A : Hd} (h : HdOk c A) (k : Ky) : Wl (heldA A k).2 := by
  unfold heldA
  cases q : lookA A k with
  | none => exact .nil
  | some v => exact h.ws _ (look_mem q)
theorem HdOk.put {c : Nat} {A : Hd} (h : HdOk c A) (k : Ky) {v : Vl} (w : Wl v.2) : HdOk (c + 1) (putA A k v) := by
  refine ⟨putA_keys h.nd, Nat.le_trans putA_len (Nat.succ_le_succ h.len), fun p hp => ?_⟩
  rcases putA_mem hp with z | z
  · exact h.ws p z
  · rw [z]; exact w
theorem HdOk.up {c d : Nat} {A : Hd} (h : HdOk c A) (k : c ≤ d) : HdOk d A := ⟨h.nd, Nat.le_trans h.len k, h.ws⟩
theorem HdOk.start : HdOk 0 [] := ⟨List.nodup_nil, Nat.le_refl _, fun _ h => nomatch h⟩
inductive Od where
  | take (h : Int) (w : Str)
  | ask (h : Int)
  | number (h n : Int)
  | copy (h g : Int)
  | mix (h g i : Int)
  | opn (h g : Int)
  | tell (h : Int)
  | wipe (h : Int)
  | lay (s h : Int)
  | fetch (h s : Int)
  | clean (s : Int)
def encO : Od → D
  | .take h w => .tuple [.str "take", .int h, .str w]
  | .ask h => .tuple [.str "ask", .int h]
  | .number h n => .tuple [.str "number", .int h, .int n]
  | .copy h g => .tuple [.str "copy", .int h, .int g]
  | .mix h g i => .tuple [.str "mix", .int h, .int g, .int i]
  | .opn h g => .tuple [.str "open", .int h, .int g]
  | .tell h => .tuple [.str "tell", .int h]
  | .wipe h => .tuple [.str "wipe", .int h]
  | .lay s h => .tuple [.str "lay", .int s, .int h]
  | .fetch h s => .tuple [.str "fetch", .int h, .int s]
  | .clean s => .tuple [.str "clean", .int s]
def OdOk : Od → Prop
  | .take _ w => w ∈ W6
  | _ => True
def wants : Od → Bool
  | .take _ _ => true
  | .ask _ => true
  | _ => false
def stepA (a : Int) (A : Hd) : Od → Hd
  | .take h w => putA A (false, h) (a, [w])
  | .ask h => putA A (false, h) (a, [])
  | .number h n => putA A (false, h) (n, [])
  | .copy h g => putA A (false, h) (heldA A (false, g))
  | .mix h g i => putA A (false, h) (((heldA A (false, g)).1 + 2 * (heldA A (false, i)).1) % 10007, srt ((heldA A (false, g)).2 ++ (heldA A (false, i)).2))
  | .opn h g => putA A (false, h) ((heldA A (false, g)).1 % 2, [])
  | .tell _ => A
  | .wipe h => putA A (false, h) (0, [])
  | .lay s h => putA A (true, s) (heldA A (false, h))
  | .fetch h s => putA A (false, h) (heldA A (true, s))
  | .clean s => putA A (true, s) (0, [])
def tellA (A : Hd) (T : List Int) : Od → List Int
  | .tell h => T ++ [(heldA A (false, h)).1]
  | _ => T
theorem HdOk.step {c : Nat} {A : Hd} {o : Od} (h : HdOk c A) (a : Int) (k : OdOk o) : HdOk (c + 1) (stepA a A o) := by
  cases o with
  | take _ w => exact h.put _ (.one k)
  | tell => exact h.up (Nat.le_succ _)
  | copy => exact h.put _ (h.held _)
  | mix => exact h.put _ ((h.held _).app (h.held _))
  | lay => exact h.put _ (h.held _)
  | fetch => exact h.put _ (h.held _)
  | _ => exact h.put _ .nil
def cnt (os : List Od) : Nat := (os.filter wants).length
end Ds.K45
namespace Ds.K45
open PySem PySem.Spec PyProof.Rows L2 Dn TL
theorem eqv_unit (ds : List D) : PyData.eqv (.tuple ds) (.tuple []) = ds.isEmpty := by cases ds <;> simp [PyData.eqv, PyData.eqvAll]
def boxP (k : Ky) : D := .tuple [.str (if k.1 then "slot" else "hand"), .int k.2]
def boxL (k : Ky) : D := .tuple [.str (if k.1 then "s" else "h"), .int k.2]
def hfs (lh : Nat) : List (Str × Cl) := [("nought", .sh (.int 0)), ("holds", .lo lh)]
/-- a holding at p, its dict at lh -/
structure Ho (p lh : Nat) (A : Hd) (s : St) : Prop where
  i : s[p]? = some (.ins "Holding" (hfs lh))
  d : s[lh]? = some (.dt (kvE keyP A))
  ne : p ≠ lh
theorem Ho.fz {p lh : Nat} {A : Hd} {s s' : St} (h : Ho p lh A s) (f : Fz s s') : Ho p lh A s' := ⟨f.at_ h.i, f.at_ h.d, h.ne⟩
theorem Ho.put {p lh : Nat} {A B : Hd} {s : St} (h : Ho p lh A s) : Ho p lh B (s.set lh (.dt (kvE keyP B))) := ⟨(set_other h.ne).trans h.i, set_same (lt_of_at h.d), h.ne⟩
section
variable {p lh : Nat} {A : Hd} {s : St} {Q : Cl → St → Prop}
theorem held {k : Ky} (h : Ho p lh A s) (q : Q (.sh (valD (heldA A k))) s) : FRun f_Holding_held [.lo p, .sh (boxP k)] s Q := by
  refine frun_fn rfl ?_
  unfold m_Holding_held
  repeat walk_at "ds"
  refine ⟨_, _, h.i, rfl, ?_⟩
  repeat walk_at "ds"
  refine ⟨_, tk_dt h.d, ?_⟩
  repeat walk_at "ds"
  refine ⟨_, _, h.i, rfl, ?_⟩
  repeat walk_at "ds"
  refine ⟨_, keyP k, tk_dt h.d, rfl, ?_⟩
  have e := held_kvE keyP_inj A k
  have e2 : (Cl.sh (.tuple [.int 0, .tuple []])) = .sh (valD (0, [])) := rfl
  rw [e2, e]
  repeat walk_at "ds"
  rw [trim_len rfl]
  exact q
theorem lay {k : Ky} {n : Int} {W : D} {ws : List Str} (h : Ho p lh A s) (hA : A.length ≤ 1000) (hW : itemsD W = some (ws.map PyData.str)) (hl : ws.length ≤ 100) (q : Q (.sh .none) (s.set lh (.dt (kvE keyP (putA A k (n, srt ws)))))) : FRun f_Holding_lay [.lo p, .sh (boxP k), .sh (.int n), .sh W] s Q := by
  refine frun_fn rfl ?_
  unfold m_Holding_lay
  repeat walk_at "ds"
  refine ⟨W, _, ws, rfl, hW, toSs_map _, by show ws.length + 1 < 4096; omega, ?_⟩
  repeat walk_at "ds"
  refine ⟨_, _, h.i, rfl, ?_⟩
  repeat walk_at "ds"
  refine ⟨_, keyP k, h.d, rfl, by rw [kvE_len]; exact Nat.lt_of_le_of_lt hA (by decide), ?_⟩
  have e := put_kvE keyP_inj A k (n, srt ws)
  have e2 : (Cl.sh (.tuple [.int n, .tuple ((sortT (metT ws)).map PyData.str)])) = .sh (valD (n, srt ws)) := rfl
  rw [e2, e]
  repeat walk_at "ds"
  rw [trim_len (by simp)]
  exact q
def keptD (A : Hd) : List D := (A.filter fun p => !p.2.2.isEmpty).map fun p => boxP p.1
theorem keysD_kvE (A : Hd) : keysD (kvE keyP A) = A.map fun p => boxP p.1 := by
  unfold keysD kvE
  rw [List.map_map]
  rfl
theorem kept {c : Nat} (h : Ho p lh A s) (hA : HdOk c A) (hc : c ≤ 1000) (q : Q (.sh (.list (keptD A))) s) : FRun f_Holding_kept [.lo p] s Q := by
  refine frun_fn rfl ?_
  unfold m_Holding_kept
  repeat walk_at "ds"
  refine ⟨_, _, h.i, rfl, ?_⟩
  repeat walk_at "ds"
  refine ⟨_, h.d, ?_⟩
  have hi2 : (s.set lh (.ft (kvE keyP A)))[p]? = some (.ins "Holding" (hfs lh)) := (set_other h.ne).trans h.i
  have hd2 : (s.set lh (.ft (kvE keyP A)))[lh]? = some (.ft (kvE keyP A)) := set_same (lt_of_at h.d)
  repeat walk_at "ds"
  refine ⟨_, _, hi2, rfl, ?_⟩
  repeat walk_at "ds"
  refine ⟨_, hd2, ?_⟩
  rw [keysD_kvE]
  repeat walk_at "ds"
  refine ⟨by rw [List.length_map]; have := hA.len; exact line_of (by omega), ?_⟩
  have key : ∀ d ∈ A.map (fun p => boxP p.1), ∃ pr ∈ A, d = boxP pr.1 := fun d hd => by
    obtain ⟨pr, h1, rfl⟩ := List.mem_map.mp hd
    exact ⟨pr, h1, rfl⟩
  refine run_compR _ (fun r ys e s' => s' = s.set lh (.ft (kvE keyP A)) ∧ e = [.lo p, .no] ∧ ∃ B C : Hd, A = B ++ C ∧ r = C.map (fun p => boxP p.1) ∧ ys = keptD B) ⟨rfl, rfl, [], A, rfl, rfl, rfl⟩ (fun d r ys e s' hJ => ?_) fun ys e s' hJ => ?_
  · obtain ⟨rfl, rfl, B, C, hA', hr, rfl⟩ := hJ
    cases C with
    | nil => cases hr
    | cons pr C =>
      rw [List.map_cons] at hr
      injection hr with hr1 hr2
      subst hr1
      subst hr2
      have hm : (pr.1, pr.2) ∈ A := by rw [hA']; simp
      have hv : valC (kvE keyP A) (keyP pr.1) = some (.sh (valD pr.2)) := by rw [val_kvE keyP_inj, look_of hA.nd hm]; rfl
      refine ⟨_, rfl, ?_⟩
      repeat walk_at "ds"
      refine ⟨_, _, hi2, rfl, ?_⟩
      repeat walk_at "ds"
      refine ⟨_, keyP pr.1, _, tk_ft hd2, rfl, hv, ?_⟩
      repeat walk_at "ds"
      have w := hA.ws _ hm
      refine bx_ne (.inl rfl) ((Sh.strs (k := 0) w.ok).ok (by decide)) rfl ?_
      rw [eqv_unit]
      repeat walk_at "ds"
      have eB : keptD (B ++ [pr]) = keptD B ++ if pr.2.2.isEmpty then [] else [boxP pr.1] := by
        unfold keptD
        rw [List.filter_append, List.map_append]
        congr 1
        obtain ⟨k, n, ws⟩ := pr
        cases ws <;> rfl
      have e1 : (pr.2.2.map PyData.str).isEmpty = pr.2.2.isEmpty := by cases pr.2.2 <;> rfl
      rw [e1]
      refine ⟨fun hb => ?_, fun hb => ?_⟩
      · repeat walk_at "ds"
        refine ⟨rfl, rfl, B ++ [pr], C, by rw [hA']; simp, rfl, ?_⟩
        rw [eB]
        rw [hb]
        simp
      · repeat walk_at "ds"
        refine ⟨rfl, rfl, B ++ [pr], C, by rw [hA']; simp, rfl, ?_⟩
        rw [eB]
        rw [hb]
        rfl
  · obtain ⟨rfl, rfl, B, C, hA', hr, rfl⟩ := hJ
    have hC : C = [] := by cases C with
      | nil => rfl
      | cons _ _ => cases hr
    subst hC
    rw [List.append_nil] at hA'
    subst hA'
    refine ⟨_, hd2, ?_⟩
    rw [List.set_set]
    have es : s.set lh (.dt (kvE keyP A)) = s := by
      have := h.d
      apply List.ext_getElem?
      intro j
      by_cases hj : j = lh
      · subst hj; rw [set_same (lt_of_at h.d), h.d]
      · rw [set_other hj]
    rw [es]
    refine ⟨_, shL_map _, ?_⟩
    repeat walk_at "ds"
    rw [trim_len rfl]
    exact q
end
end Ds.K45
namespace Ds.K45
open PySem PySem.Spec PyProof.Rows L2 Dn TL
theorem at0 {d : D} {r : List D} : dIx (.tuple (d :: r)) (.int 0) = some d := by
  show atI (d :: r) 0 = some d
  unfold atI ixN
  rw [if_pos (by omega), if_pos (by rw [List.length_cons]; omega)]
  rfl
section
variable {s : St} {Q : Cl → St → Prop}
theorem is_below {i e : Int} (h1 : 0 ≤ i) (h2 : i < e) (q : Q (.sh (.bool true)) s) : FRun f_is_below [.sh (.int i), .sh (.int e)] s Q := by
  refine frun_fn rfl ?_
  unfold m_is_below
  repeat walk_at "ds"
  refine two_dec (fun h => ?_) (fun h => absurd h1 h)
  repeat walk_at "ds"
  rw [trim_len rfl]
  rw [decide_eq_true h2]
  exact q
/-- a word of the language -/
def wordO : Od → D
  | .take h w => .tuple [.str "take", boxP (false, h), .str w]
  | .ask h => .tuple [.str "ask", boxP (false, h)]
  | .number h n => .tuple [.str "number", boxP (false, h), .int n]
  | .copy h g => .tuple [.str "copy", boxP (false, h), boxP (false, g)]
  | .mix h g i => .tuple [.str "mix", boxP (false, h), boxP (false, g), boxP (false, i)]
  | .opn h g => .tuple [.str "open", boxP (false, h), boxP (false, g)]
  | .tell h => .tuple [.str "tell", boxP (false, h)]
  | .wipe h => .tuple [.str "wipe", boxP (false, h)]
  | .lay s h => .tuple [.str "copy", boxP (true, s), boxP (false, h)]
  | .fetch h s => .tuple [.str "copy", boxP (false, h), boxP (true, s)]
  | .clean s => .tuple [.str "wipe", boxP (true, s)]
def lastW : M Fl := (mRet (mSh (mBin dAdd (mSl (mVar 0) mNoPart (mPart (mC (PyData.int 1)))) (mCallB bTuple [(mSh (mFr (mComp (mIter (mSl (mVar 0) (mPart (mC (PyData.int 1))) mNoPart)) [1] (mgName 1) mYes (mTup [(mSh (mC (PyData.str "hand"))), (mSh (mVar 1))]))))]))))
theorem hands {x : Str} {hs : List Int} (hl : hs.length ≤ 100) (q : Q (.sh (.tuple (.str x :: hs.map fun h => boxP (false, h)))) s) : Run lastW [.sh (.tuple (.str x :: hs.map PyData.int)), .no] s fun fl e1 s1 => (fl = .nx → Q (.sh .none) (trim s.length (.sh .none) s1)) ∧ (∀ c, fl = .rt c → Q c (trim s.length c s1)) ∧ fl ≠ .bk ∧ fl ≠ .ct := by
  unfold lastW
  repeat walk_at "ds"
  have c0 : Dn.cutD (PyData.str x :: hs.map PyData.int) none (some 1) = [.str x] := by
    unfold Dn.cutD HT.sIx
    simp
  have c1 : Dn.cutD (PyData.str x :: hs.map PyData.int) (some 1) none = hs.map PyData.int := by
    unfold Dn.cutD HT.sIx
    simp
    exact List.take_of_length_le (by simp)
  rw [c1]
  refine ⟨by rw [List.length_map]; exact line_of (by omega), ?_⟩
  refine run_compF _ (fun _ => true) (fun d => .tuple [.str "hand", d]) (fun s' => s' = s) rfl (fun d hd s' hs' => ?_) fun s' hs' => ?_
  · subst hs'
    obtain ⟨i, _, rfl⟩ := List.mem_map.mp hd
    refine ⟨_, rfl, ?_⟩
    repeat walk_at "ds"
    refine ⟨rfl, fun _ => ?_, fun z => nomatch z⟩
    repeat walk_at "ds"
    exact ⟨rfl, rfl, rfl⟩
  · subst hs'
    rw [List.filter_eq_self.mpr (fun _ _ => rfl)]
    refine ⟨_, shL_map _, ?_⟩
    repeat walk_at "ds"
    rw [c0]
    refine bx_add_tup (line_of (by simp; omega)) ?_
    repeat walk_at "ds"
    rw [trim_len rfl]
    have e : ([PyData.str x] ++ (hs.map PyData.int).map fun d => PyData.tuple [.str "hand", d]) = .str x :: hs.map fun h => boxP (false, h) := by
      rw [List.map_map]
      rfl
    rw [e]
    exact q
theorem word_of {o : Od} (q : Q (.sh (wordO o)) s) : FRun f_word_of [.sh (encO o)] s Q := by
  refine frun_fn rfl ?_
  unfold m_word_of
  show Run (mSeq _ (mSeq _ (mSeq _ (mSeq _ lastW)))) _ _ _
  cases o with
  | take h w =>
    repeat walk_at "ds"
    rw [trim_len rfl]
    exact q
  | number h n =>
    repeat walk_at "ds"
    rw [trim_len rfl]
    exact q
  | lay a b =>
    repeat walk_at "ds"
    rw [trim_len rfl]
    exact q
  | fetch a b =>
    repeat walk_at "ds"
    rw [trim_len rfl]
    exact q
  | clean a =>
    repeat walk_at "ds"
    rw [trim_len rfl]
    exact q
  | ask h =>
    repeat walk_at "ds"
    exact hands (hs := [h]) (Nat.le_of_ble_eq_true rfl) q
  | copy h g =>
    repeat walk_at "ds"
    exact hands (hs := [h, g]) (Nat.le_of_ble_eq_true rfl) q
  | mix h g i =>
    repeat walk_at "ds"
    exact hands (hs := [h, g, i]) (Nat.le_of_ble_eq_true rfl) q
  | opn h g =>
    repeat walk_at "ds"
    exact hands (hs := [h, g]) (Nat.le_of_ble_eq_true rfl) q
  | tell h =>
    repeat walk_at "ds"
    exact hands (hs := [h]) (Nat.le_of_ble_eq_true rfl) q
  | wipe h =>
    repeat walk_at "ds"
    exact hands (hs := [h]) (Nat.le_of_ble_eq_true rfl) q
/-- what is no answer -/
inductive Bad : D → Prop where
  | int (a : Int) (h : ¬ (0 ≤ a ∧ a < 10000)) : Bad (.int a)
  | bl (b : Bool) : Bad (.bool b)
  | non : Bad .none
  | str (z : Str) : Bad (.str z)
  | tup (ds : List D) : Bad (.tuple ds)
theorem is_bad {d : D} (h : Bad d) (q : Q (.sh (.bool false)) s) : FRun f_is_below [.sh d, .sh (.int 10000)] s Q := by
  refine frun_fn rfl ?_
  unfold m_is_below
  cases h with
  | int a h =>
    repeat walk_at "ds"
    refine two_dec (fun h1 => ?_) (fun h1 => ?_)
    · repeat walk_at "ds"
      rw [trim_len rfl]
      rw [decide_eq_false fun z => h ⟨h1, z⟩]
      exact q
    · repeat walk_at "ds"
      rw [trim_len rfl]
      exact q
  | bl b =>
    repeat walk_at "ds"
    rw [trim_len rfl]
    exact q
  | non =>
    repeat walk_at "ds"
    rw [trim_len rfl]
    exact q
  | str z =>
    repeat walk_at "ds"
    rw [trim_len rfl]
    exact q
  | tup ds =>
    repeat walk_at "ds"
    rw [trim_len rfl]
    exact q
theorem ix_as {as : List D} {i : Nat} {d : D} {R : D → Prop} (h : as[i]? = some d) (r : R d) : ∃ c, dIx (.tuple as) (.int i) = some c ∧ R c := by
  have hlt := (List.getElem?_eq_some_iff.mp h).1
  refine bx_ix_tup (d := d) ?_ r
  unfold atI ixN
  rw [if_pos (by omega), if_pos (by omega)]
  simp [h]
theorem answer_at {as : List D} {i : Nat} {a : Int} (h : as[i]? = some (.int a)) (h1 : 0 ≤ a) (h2 : a < 10000) (q : Q (.sh (.int a)) s) : FRun f_answer_at [.sh (.tuple as), .sh (.int i)] s Q := by
  have hlt := (List.getElem?_eq_some_iff.mp h).1
  refine frun_fn rfl ?_
  unfold m_answer_at
  repeat walk_at "ds"
  refine two_dec (fun h6 => absurd h6 (by omega)) (fun h6 => ?_)
  repeat walk_at "ds"
  refine ix_as h ?_
  repeat walk_at "ds"
  refine is_below h1 h2 ?_
  repeat walk_at "ds"
  refine ix_as h ?_
  repeat walk_at "ds"
  rw [trim_len rfl]
  exact q
theorem answer_bad {as : List D} {i : Nat} {YF : Exn → St → Prop} (hb : ∀ d, as[i]? = some d → Bad d) (y : YF ⟨"NoAnswer", some i⟩ s) : FRunX YF f_answer_at [.sh (.tuple as), .sh (.int i)] s Q := by
  refine frun_fn rfl ?_
  unfold m_answer_at
  repeat walk_at "ds"
  refine two_dec (fun h6 => ?_) (fun h6 => ?_)
  · repeat walk_at "ds"
    exact y
  · repeat walk_at "ds"
    have hlt : i < as.length := by omega
    have h := List.getElem?_eq_getElem hlt
    refine ix_as h ?_
    repeat walk_at "ds"
    refine is_bad (hb _ h) ?_
    repeat walk_at "ds"
    exact y
theorem nb_copy {k g : D} {n : Int} (q : Q (.sh (.int n)) s) : FRun f_number_behind [.sh (.tuple [.str "copy", k, g]), .sh (.list [.int n])] s Q := by
  refine frun_fn rfl ?_
  unfold m_number_behind
  repeat walk_at "ds"
  rw [trim_len rfl]
  exact q
theorem nb_mix {k g i : D} {a b : Int} (q : Q (.sh (.int ((a + 2 * b) % 10007))) s) : FRun f_number_behind [.sh (.tuple [.str "mix", k, g, i]), .sh (.list [.int a, .int b])] s Q := by
  refine frun_fn rfl ?_
  unfold m_number_behind
  repeat walk_at "ds"
  rw [trim_len rfl]
  exact q
theorem nb_open {k g : D} {a : Int} (q : Q (.sh (.int (a % 2))) s) : FRun f_number_behind [.sh (.tuple [.str "open", k, g]), .sh (.list [.int a])] s Q := by
  refine frun_fn rfl ?_
  unfold m_number_behind
  repeat walk_at "ds"
  rw [trim_len rfl]
  exact q
theorem wo_open {k g : D} {th : List D} (q : ∀ s', Fz s s' → Q (.sh (.list [])) s') : FRun f_worths_of [.sh (.tuple [.str "open", k, g]), .sh (.list th)] s Q := by
  refine frun_fn rfl ?_
  unfold m_worths_of
  repeat walk_at "ds"
  refine ⟨_, [], app_new, rfl, ?_⟩
  repeat walk_at "ds"
  exact q _ (Fz.app.put (Nat.le_refl _)).trim
theorem wo_all {x : Str} {r : List D} {vs : List Vl} (hx : ¬ x = "open") (hv : ∀ v ∈ vs, v.2.length ≤ 6) (hl : vs.length ≤ 10) (q : ∀ s', Fz s s' → Q (.sh (.list ((vs.flatMap (·.2)).map PyData.str))) s') : FRun f_worths_of [.sh (.tuple (.str x :: r)), .sh (.list (vs.map valD))] s Q := by
  refine frun_fn rfl ?_
  unfold m_worths_of
  repeat walk_at "ds"
  refine ⟨_, at0, ?_⟩
  repeat walk_at "ds"
  refine two_dec (fun h6 => absurd h6 hx) (fun h6 => ?_)
  repeat walk_at "ds"
  refine run_forR _ (fun rem e s' => ∃ B C : List Vl, vs = B ++ C ∧ rem = C.map valD ∧ Fz s s' ∧ s'[s.length]? = some (.lst (((B.flatMap (·.2)).map PyData.str).map Cl.sh)) ∧ ∃ z3 z4, e = [.sh (.tuple (.str x :: r)), .sh (.list (vs.map valD)), .lo s.length, z3, z4]) ⟨[], vs, rfl, rfl, Fz.app, app_new, _, _, rfl⟩ (fun d rem e s' hI => ?_) fun e s' hI => ?_
  · obtain ⟨B, C, hvs, hr, F1, hx1, z3, z4, rfl⟩ := hI
    cases C with
    | nil => cases hr
    | cons v C =>
      rw [List.map_cons] at hr
      injection hr with hr1 hr2
      subst hr1
      subst hr2
      refine ⟨_, rfl, ?_⟩
      repeat walk_at "ds"
      refine ⟨_, hx1, ?_⟩
      repeat walk_at "ds"
      have bl : ∀ (L : List Vl), (∀ v ∈ L, v.2.length ≤ 6) → (L.flatMap (·.2)).length ≤ 6 * L.length := fun L => by
        induction L with
        | nil => intro _; exact Nat.le_refl _
        | cons a L ih =>
          intro h
          rw [List.flatMap_cons, List.length_append, List.length_cons]
          have h1 := h a List.mem_cons_self
          have h2 := ih fun v hv => h v (List.mem_cons_of_mem _ hv)
          omega
      have hb : (B.flatMap (·.2)).length ≤ 6 * B.length := bl B fun v h => hv v (by rw [hvs]; exact List.mem_append_left _ h)
      have hlv : v.2.length ≤ 6 := hv v (by rw [hvs]; simp)
      have hBl : B.length ≤ 10 := by rw [hvs] at hl; simp at hl; omega
      refine ⟨_, _, _, hx1, rfl, rfl, line_of (by simp; simp at hb; omega), ?_⟩
      repeat walk_at "ds"
      refine ⟨B ++ [v], C, by rw [hvs]; simp, rfl, F1.put (Nat.le_refl _), ?_, _, _, rfl⟩
      rw [set_same (lt_of_at hx1)]
      rw [List.flatMap_append]
      simp
  · obtain ⟨B, C, hvs, hr, F1, hx1, z3, z4, rfl⟩ := hI
    have hC : C = [] := by cases C with
      | nil => rfl
      | cons _ _ => cases hr
    subst hC
    rw [List.append_nil] at hvs
    subst hvs
    refine ⟨fun _ => ?_, fun z => absurd rfl z⟩
    repeat walk_at "ds"
    refine ⟨_, _, hx1, shL_map _, ?_⟩
    repeat walk_at "ds"
    exact q _ (F1.put (Nat.le_refl _)).trim
end
end Ds.K45
namespace Ds.K45
open PySem PySem.Spec PyProof.Rows L2 Dn TL
def tkv (n tn : Nat) : List (Key × Cl) := [(.inr "answers", .sh (.int n)), (.inr "numbers", .lo tn)]
/-- a run of a code: the holding, what is told -/
structure PS (p lh t tn : Nat) (A : Hd) (n : Nat) (T : List Int) (s : St) : Prop where
  h : Ho p lh A s
  k : s[t]? = some (.dk (tkv n tn))
  l : s[tn]? = some (.lst ((T.map PyData.int).map Cl.sh))
  n1 : lh ≠ t
  n2 : lh ≠ tn
  n3 : p ≠ t
  n4 : p ≠ tn
  n5 : t ≠ tn
section
variable {p lh t tn : Nat} {A B : Hd} {n : Nat} {T : List Int} {s s' : St}
theorem PS.of {m : Nat} (P : PS p lh t tn A n T s) (k : ∀ j, j < m → s'[j]? = s[j]?) (b1 : p < m) (b2 : lh < m) (b3 : t < m) (b4 : tn < m) : PS p lh t tn A n T s' :=
  ⟨⟨(k p b1).trans P.h.i, (k lh b2).trans P.h.d, P.h.ne⟩, (k t b3).trans P.k, (k tn b4).trans P.l, P.n1, P.n2, P.n3, P.n4, P.n5⟩
theorem PS.fz (P : PS p lh t tn A n T s) (f : Fz s s') : PS p lh t tn A n T s' := P.of f.2 (lt_of_at P.h.i) (lt_of_at P.h.d) (lt_of_at P.k) (lt_of_at P.l)
theorem PS.lay (P : PS p lh t tn A n T s) : PS p lh t tn B n T (s.set lh (.dt (kvE keyP B))) :=
  ⟨P.h.put, (set_other (Ne.symm P.n1)).trans P.k, (set_other (Ne.symm P.n2)).trans P.l, P.n1, P.n2, P.n3, P.n4, P.n5⟩
theorem PS.ans {n' : Nat} (P : PS p lh t tn A n T s) : PS p lh t tn A n' T (s.set t (.dk (tkv n' tn))) :=
  ⟨⟨(set_other P.n3).trans P.h.i, (set_other P.n1).trans P.h.d, P.h.ne⟩, set_same (lt_of_at P.k), (set_other (Ne.symm P.n5)).trans P.l, P.n1, P.n2, P.n3, P.n4, P.n5⟩
theorem PS.tell {T' : List Int} (P : PS p lh t tn A n T s) : PS p lh t tn A n T' (s.set tn (.lst ((T'.map PyData.int).map Cl.sh))) :=
  ⟨⟨(set_other P.n4).trans P.h.i, (set_other P.n2).trans P.h.d, P.h.ne⟩, (set_other P.n5).trans P.k, set_same (lt_of_at P.l), P.n1, P.n2, P.n3, P.n4, P.n5⟩
theorem PS.trim {L : Nat} {c : Cl} (P : PS p lh t tn A n T s) (b1 : p < L) (b2 : lh < L) (b3 : t < L) (b4 : tn < L) : PS p lh t tn A n T (trim L c s) := P.of (m := L) (fun j hj => trim_get hj) b1 b2 b3 b4
end
/-- all else is as it was -/
def Fw (lh t tn : Nat) (s s' : St) : Prop := s.length ≤ s'.length ∧ ∀ j, j < s.length → j ≠ lh → j ≠ t → j ≠ tn → s'[j]? = s[j]?
section
variable {lh t tn : Nat} {s s' : St} {o : Ob}
theorem Fw.fz (f : Fz s s') : Fw lh t tn s s' := ⟨f.1, fun j hj _ _ _ => f.2 j hj⟩
theorem Fw.lay (f : Fw lh t tn s s') : Fw lh t tn s (s'.set lh o) := ⟨by simpa using f.1, fun j hj a b c => (set_other a).trans (f.2 j hj a b c)⟩
theorem Fw.ans (f : Fw lh t tn s s') : Fw lh t tn s (s'.set t o) := ⟨by simpa using f.1, fun j hj a b c => (set_other b).trans (f.2 j hj a b c)⟩
theorem Fw.tell (f : Fw lh t tn s s') : Fw lh t tn s (s'.set tn o) := ⟨by simpa using f.1, fun j hj a b c => (set_other c).trans (f.2 j hj a b c)⟩
theorem Fw.trim {k : Cl} (f : Fw lh t tn s s') : Fw lh t tn s (trim s.length k s') := ⟨trim_ge f.1, fun j hj a b c => (trim_get hj).trans (f.2 j hj a b c)⟩
end
theorem put_ans {n n' tn : Nat} : putC (tkv n tn) (.inr "answers") (.sh (.int n')) = tkv n' tn := by
  unfold putC tkv
  rw [if_pos (by simp)]
  simp
  decide
theorem at1 {a d : D} {r : List D} : dIx (.tuple (a :: d :: r)) (.int 1) = some d := by
  show atI (a :: d :: r) 1 = some d
  unfold atI ixN
  rw [if_pos (by omega), if_pos (by rw [List.length_cons, List.length_cons]; omega)]
  rfl
theorem cut2 (a b : D) (r : List D) : Dn.cutD (a :: b :: r) (some 2) none = r := by
  unfold Dn.cutD HT.sIx
  simp
def lastD : M Fl := (mSeq (mSet 5 (mSh (mFr (mComp (mIter (mSl (mVar 1) (mPart (mC (PyData.int 2))) mNoPart)) [6] (mgName 6) mYes (mD (mMeth "Holding" "held" f_Holding_held (mLV 0) [(mSh (mVar 6))]))))))
  (mExpr (mSh (mD (mMeth "Holding" "lay" f_Holding_lay (mLV 0) [(mSh (mBin dIx (mVar 1) (mC (PyData.int 1)))), (mSh (mD (mCall f_number_behind [(mSh (mVar 1)), (mSh (mFr (mComp (mIter (mVar 5)) [7, 8] (mgTup 2 (mgCons (mgName 7) (mgCons (mgName 8) mgNil))) mYes (mVar 7))))]))), (mSh (mD (mCall f_worths_of [(mSh (mVar 1)), (mSh (mVar 5))])))])))))
section
variable {p lh t tn c : Nat} {A : Hd} {n : Nat} {T : List Int} {s : St} {Q : Cl → St → Prop} {as : D}
theorem last_done {x : Str} {k : Ky} {ks : List Ky} {r : Int} {ws : List Str} (P : PS p lh t tn A n T s) (hA : HdOk c A) (hc : c ≤ 900) (hk : ks.length ≤ 3) (hw : ws.length ≤ 100)
    (hn : ∀ (s : St) (Q : Cl → St → Prop), Q (.sh (.int r)) s → FRun f_number_behind [.sh (.tuple (.str x :: boxP k :: ks.map boxP)), .sh (.list ((ks.map (heldA A)).map fun v => .int v.1))] s Q)
    (hwo : ∀ (s : St) (Q : Cl → St → Prop), (∀ s', Fz s s' → Q (.sh (.list (ws.map PyData.str))) s') → FRun f_worths_of [.sh (.tuple (.str x :: boxP k :: ks.map boxP)), .sh (.list ((ks.map (heldA A)).map valD))] s Q)
    (q : ∀ s', PS p lh t tn (putA A k (r, srt ws)) n T s' → Fw lh t tn s s' → Q (.sh .none) s') :
    Run lastD [.lo p, .sh (.tuple (.str x :: boxP k :: ks.map boxP)), .sh as, .lo t, .no, .no, .no, .no, .no] s fun fl e1 s1 => (fl = .nx → Q (.sh .none) (trim s.length (.sh .none) s1)) ∧ (∀ c, fl = .rt c → Q c (trim s.length c s1)) ∧ fl ≠ .bk ∧ fl ≠ .ct := by
  unfold lastD
  repeat walk_at "ds"
  rw [cut2]
  refine ⟨by rw [List.length_map]; exact line_of (by omega), ?_⟩
  refine run_compR _ (fun rem ys e s' => s' = s ∧ e = [.lo p, .sh (.tuple (.str x :: boxP k :: ks.map boxP)), .sh as, .lo t, .no, .no, .no, .no, .no] ∧ ∃ B C : List Ky, ks = B ++ C ∧ rem = C.map boxP ∧ ys = (B.map (heldA A)).map valD) ⟨rfl, rfl, [], ks, rfl, rfl, rfl⟩ (fun d rem ys e s' hJ => ?_) fun ys e s' hJ => ?_
  · obtain ⟨rfl, rfl, B, C, hks, hr, rfl⟩ := hJ
    cases C with
    | nil => cases hr
    | cons j C =>
      rw [List.map_cons] at hr
      injection hr with hr1 hr2
      subst hr1
      subst hr2
      refine ⟨_, rfl, ?_⟩
      repeat walk_at "ds"
      refine ⟨_, P.h.i, rfl, ?_⟩
      repeat walk_at "ds"
      refine held P.h ?_
      repeat walk_at "ds"
      exact ⟨rfl, rfl, B ++ [j], C, by rw [hks]; simp, rfl, by simp⟩
  · obtain ⟨rfl, rfl, B, C, hks, hr, rfl⟩ := hJ
    have hC : C = [] := by cases C with
      | nil => rfl
      | cons _ _ => cases hr
    subst hC
    rw [List.append_nil] at hks
    subst hks
    refine ⟨_, shL_map _, ?_⟩
    repeat walk_at "ds"
    refine ⟨_, P.h.i, rfl, ?_⟩
    repeat walk_at "ds"
    refine ⟨_, at1, ?_⟩
    repeat walk_at "ds"
    refine ⟨by rw [List.length_map, List.length_map]; exact line_of (by omega), ?_⟩
    refine run_compF _ (fun _ => true) (fun d => match d with | .tuple (x :: _) => x | d => d) (fun s1 => s1 = s') rfl (fun d hd s1 hs' => ?_) fun s1 hs' => ?_
    · subst hs'
      obtain ⟨v, _, rfl⟩ := List.mem_map.mp hd
      refine ⟨_, rfl, ?_⟩
      repeat walk_at "ds"
      refine ⟨rfl, fun _ => ?_, fun z => nomatch z⟩
      repeat walk_at "ds"
      exact ⟨rfl, rfl, rfl⟩
    · subst hs'
      rw [List.filter_eq_self.mpr (fun _ _ => rfl)]
      have en : (((ks.map (heldA A)).map valD).map fun d => match d with | .tuple (x :: _) => x | d => d) = (ks.map (heldA A)).map fun v => .int v.1 := by
        rw [List.map_map]
        rfl
      rw [en]
      refine ⟨_, shL_map _, ?_⟩
      repeat walk_at "ds"
      refine hn _ _ ?_
      repeat walk_at "ds"
      refine hwo _ _ fun s2 F2 => ?_
      have P2 := P.fz F2
      repeat walk_at "ds"
      refine lay P2.h (Nat.le_trans hA.len (by omega)) rfl hw ?_
      repeat walk_at "ds"
      exact q _ (P2.lay.trim (lt_of_at P.h.i) (lt_of_at P.h.d) (lt_of_at P.k) (lt_of_at P.l)) (Fw.fz F2).lay.trim
end
end Ds.K45
namespace Ds.K45
open PySem PySem.Spec PyProof.Rows L2 Dn TL
section
variable {p lh t tn c : Nat} {A : Hd} {n : Nat} {T : List Int} {s : St} {Q : Cl → St → Prop} {as : List D}
/-- what is asked of the answers -/
def AnOk (as : List D) (n : Nat) (o : Od) : Prop := wants o = true → ∃ a, as[n]? = some (.int a) ∧ 0 ≤ a ∧ a < 10000
def anD : Option D → Int
  | some (.int a) => a
  | _ => 0
def anA (as : List D) (n : Nat) (o : Od) : Int := if wants o = true then anD as[n]? else 0
def nxA (n : Nat) (o : Od) : Nat := if wants o = true then n + 1 else n
theorem done {o : Od} (P : PS p lh t tn A n T s) (hA : HdOk c A) (hc : c ≤ 900) (hT : T.length ≤ 900) (ho : OdOk o) (ha : AnOk as n o) (q : ∀ s', PS p lh t tn (stepA (anA as n o) A o) (nxA n o) (tellA A T o) s' → Fw lh t tn s s' → Q (.sh .none) s') :
    FRun f_done [.lo p, .sh (wordO o), .sh (.tuple as), .lo t] s Q := by
  have b1 := lt_of_at P.h.i
  have b2 := lt_of_at P.h.d
  have b3 := lt_of_at P.k
  have b4 := lt_of_at P.l
  have hl : A.length ≤ 1000 := Nat.le_trans hA.len (by omega)
  refine frun_fn rfl ?_
  unfold m_done
  show RunX _ (mIfS _ _ (mIfS _ _ (mIfS _ _ (mIfS _ _ lastD)))) _ _ _
  cases o with
  | take h w =>
    obtain ⟨a, h1, h2, h3⟩ := ha rfl
    have ea : anA as n (.take h w) = a := by
      show anD as[n]? = a
      rw [h1]
      rfl
    rw [ea] at q
    repeat walk_at "ds"
    refine ⟨_, P.h.i, rfl, ?_⟩
    repeat walk_at "ds"
    refine ⟨_, _, _, P.k, rfl, rfl, ?_⟩
    repeat walk_at "ds"
    refine FRunX.lift (answer_at h1 h2 h3 ?_)
    repeat walk_at "ds"
    refine lay (k := (false, h)) (ws := [w]) P.h hl rfl (by simp) ?_
    have P2 := P.lay (B := putA A (false, h) (a, srt [w]))
    repeat walk_at "ds"
    refine ⟨_, _, _, P2.k, rfl, rfl, ?_⟩
    repeat walk_at "ds"
    refine ⟨_, _, P2.k, rfl, by show 2 < sizeLine; decide, ?_⟩
    have e : (PyData.int ((n : Int) + 1)) = .int ((n + 1 : Nat) : Int) := by congr 1
    rw [e, put_ans]
    repeat walk_at "ds"
    rw [srt_one] at P2
    rw [srt_one]
    exact q _ (P2.ans.trim b1 b2 b3 b4) (Fw.fz (Fz.refl s)).lay.ans.trim
  | ask h =>
    obtain ⟨a, h1, h2, h3⟩ := ha rfl
    have ea : anA as n (.ask h) = a := by
      show anD as[n]? = a
      rw [h1]
      rfl
    rw [ea] at q
    repeat walk_at "ds"
    refine ⟨_, P.h.i, rfl, ?_⟩
    repeat walk_at "ds"
    refine ⟨_, _, _, P.k, rfl, rfl, ?_⟩
    repeat walk_at "ds"
    refine FRunX.lift (answer_at h1 h2 h3 ?_)
    repeat walk_at "ds"
    refine lay (k := (false, h)) (ws := []) P.h hl rfl (by simp) ?_
    have P2 := P.lay (B := putA A (false, h) (a, srt []))
    repeat walk_at "ds"
    refine ⟨_, _, _, P2.k, rfl, rfl, ?_⟩
    repeat walk_at "ds"
    refine ⟨_, _, P2.k, rfl, by show 2 < sizeLine; decide, ?_⟩
    have e : (PyData.int ((n : Int) + 1)) = .int ((n + 1 : Nat) : Int) := by congr 1
    rw [e, put_ans]
    repeat walk_at "ds"
    rw [srt_nil] at P2
    rw [srt_nil]
    exact q _ (P2.ans.trim b1 b2 b3 b4) (Fw.fz (Fz.refl s)).lay.ans.trim
  | number h m =>
    repeat walk_at "ds"
    refine ⟨_, P.h.i, rfl, ?_⟩
    repeat walk_at "ds"
    refine lay (k := (false, h)) (ws := []) P.h hl rfl (by simp) ?_
    have P2 := P.lay (B := putA A (false, h) (m, srt []))
    repeat walk_at "ds"
    rw [srt_nil] at P2
    rw [srt_nil]
    exact q _ (P2.trim b1 b2 b3 b4) (Fw.fz (Fz.refl s)).lay.trim
  | wipe h =>
    repeat walk_at "ds"
    refine ⟨_, P.h.i, rfl, ?_⟩
    repeat walk_at "ds"
    refine lay (k := (false, h)) (ws := []) P.h hl rfl (by simp) ?_
    have P2 := P.lay (B := putA A (false, h) (0, srt []))
    repeat walk_at "ds"
    rw [srt_nil] at P2
    rw [srt_nil]
    exact q _ (P2.trim b1 b2 b3 b4) (Fw.fz (Fz.refl s)).lay.trim
  | clean h =>
    repeat walk_at "ds"
    refine ⟨_, P.h.i, rfl, ?_⟩
    repeat walk_at "ds"
    refine lay (k := (true, h)) (ws := []) P.h hl rfl (by simp) ?_
    have P2 := P.lay (B := putA A (true, h) (0, srt []))
    repeat walk_at "ds"
    rw [srt_nil] at P2
    rw [srt_nil]
    exact q _ (P2.trim b1 b2 b3 b4) (Fw.fz (Fz.refl s)).lay.trim
  | tell h =>
    repeat walk_at "ds"
    refine ⟨_, _, _, P.k, rfl, rfl, ?_⟩
    repeat walk_at "ds"
    refine ⟨_, P.l, ?_⟩
    repeat walk_at "ds"
    refine ⟨_, P.h.i, rfl, ?_⟩
    repeat walk_at "ds"
    refine held (k := (false, h)) P.h ?_
    repeat walk_at "ds"
    refine ⟨_, P.l, by rw [List.length_map, List.length_map]; exact Nat.lt_of_le_of_lt hT (by decide), ?_⟩
    have e : (T.map PyData.int).map Cl.sh ++ [Cl.sh (.int (heldA A (false, h)).1)] = ((T ++ [(heldA A (false, h)).1]).map PyData.int).map Cl.sh := by simp
    rw [e]
    repeat walk_at "ds"
    exact q _ (P.tell.trim b1 b2 b3 b4) (Fw.fz (Fz.refl s)).tell.trim
  | copy h g =>
    have w := hA.held (false, g)
    repeat walk_at "ds"
    refine last_done (k := (false, h)) (ks := [(false, g)]) (ws := (heldA A (false, g)).2) P hA hc (by simp) (Nat.le_trans w.len (by decide)) (fun s Q hq => nb_copy hq) (fun s Q hq => wo_all (by decide) (fun v hv => ?_) (by simp) fun s' f => ?_) fun s' P' f' => ?_
    · simp at hv; subst hv; exact w.len
    · simpa using hq s' f
    · rw [w.fix] at P'; exact q s' P' f'
  | lay a h =>
    have w := hA.held (false, h)
    repeat walk_at "ds"
    refine last_done (k := (true, a)) (ks := [(false, h)]) (ws := (heldA A (false, h)).2) P hA hc (by simp) (Nat.le_trans w.len (by decide)) (fun s Q hq => nb_copy hq) (fun s Q hq => wo_all (by decide) (fun v hv => ?_) (by simp) fun s' f => ?_) fun s' P' f' => ?_
    · simp at hv; subst hv; exact w.len
    · simpa using hq s' f
    · rw [w.fix] at P'; exact q s' P' f'
  | fetch h a =>
    have w := hA.held (true, a)
    repeat walk_at "ds"
    refine last_done (k := (false, h)) (ks := [(true, a)]) (ws := (heldA A (true, a)).2) P hA hc (by simp) (Nat.le_trans w.len (by decide)) (fun s Q hq => nb_copy hq) (fun s Q hq => wo_all (by decide) (fun v hv => ?_) (by simp) fun s' f => ?_) fun s' P' f' => ?_
    · simp at hv; subst hv; exact w.len
    · simpa using hq s' f
    · rw [w.fix] at P'; exact q s' P' f'
  | opn h g =>
    repeat walk_at "ds"
    refine last_done (k := (false, h)) (ks := [(false, g)]) (ws := []) P hA hc (by simp) (by simp) (fun s Q hq => nb_open hq) (fun s Q hq => wo_open hq) fun s' P' f' => ?_
    rw [srt_nil] at P'
    exact q s' P' f'
  | mix h g i =>
    have w := hA.held (false, g)
    have w2 := hA.held (false, i)
    repeat walk_at "ds"
    refine last_done (k := (false, h)) (ks := [(false, g), (false, i)]) (ws := (heldA A (false, g)).2 ++ (heldA A (false, i)).2) P hA hc (by simp) (by rw [List.length_append]; have := w.len; have := w2.len; omega) (fun s Q hq => nb_mix hq) (fun s Q hq => wo_all (by decide) (fun v hv => ?_) (by simp) fun s' f => ?_) fun s' P' f' => ?_
    · simp at hv
      rcases hv with rfl | rfl
      · exact w.len
      · exact w2.len
    · simpa using hq s' f
    · exact q s' P' f'
theorem done_bad {o : Od} {YF : Exn → St → Prop} (P : PS p lh t tn A n T s) (hw : wants o = true) (hb : ∀ d, as[n]? = some d → Bad d) (y : YF ⟨"NoAnswer", some n⟩ s) : FRunX YF f_done [.lo p, .sh (wordO o), .sh (.tuple as), .lo t] s Q := by
  refine frun_fn rfl ?_
  unfold m_done
  show RunX _ (mIfS _ _ (mIfS _ _ (mIfS _ _ (mIfS _ _ lastD)))) _ _ _
  cases o with
  | take h w =>
    repeat walk_at "ds"
    refine ⟨_, P.h.i, rfl, ?_⟩
    repeat walk_at "ds"
    refine ⟨_, _, _, P.k, rfl, rfl, ?_⟩
    repeat walk_at "ds"
    exact answer_bad hb y
  | ask h =>
    repeat walk_at "ds"
    refine ⟨_, P.h.i, rfl, ?_⟩
    repeat walk_at "ds"
    refine ⟨_, _, _, P.k, rfl, rfl, ?_⟩
    repeat walk_at "ds"
    exact answer_bad hb y
  | _ => cases hw
end
end Ds.K45
namespace Ds.K45
open PySem PySem.Spec PyProof.Rows L2 Dn TL
def leK : Ky → Ky → Bool := PySem.W.dataLe false boxP
theorem sort_boxP (ks : List Ky) : sortD (ks.map boxP) = (ks.mergeSort leK).map boxP := (List.map_mergeSort (f := boxP) (r := leK) (s := PySem.W.dataLe false id) fun _ _ _ _ => rfl).symm
theorem sortB_box {f : Ky → D} (hf : f = boxP ∨ f = boxL) {ks : List Ky} (hl : ks.length ≤ 1000) : sortB (ks.map f) = true := by
  have al : ∀ a b, PySem.W.alike (f a) (f b) = true := fun a b => by rcases hf with rfl | rfl <;> simp [boxP, boxL, PySem.W.alike, PySem.W.alikeAll]
  have tu : ∀ a, tup1 (f a) = true := fun a => by rcases hf with rfl | rfl <;> rfl
  have de : ∀ a, (f a).depth ≤ 8 := fun a => by rcases hf with rfl | rfl <;> simp [boxP, boxL, PyData.depth, PyData.depthAll]
  unfold sortB
  rw [Bool.and_eq_true, Bool.and_eq_true, Bool.and_eq_true, Bool.or_eq_true]
  refine ⟨⟨⟨List.all_eq_true.mpr fun d hd => List.all_eq_true.mpr fun e he => ?_, .inl (List.all_eq_true.mpr fun d hd => ?_)⟩, List.all_eq_true.mpr fun d hd => ?_⟩, ?_⟩
  · obtain ⟨a, _, rfl⟩ := List.mem_map.mp hd
    obtain ⟨b, _, rfl⟩ := List.mem_map.mp he
    exact al a b
  · obtain ⟨a, _, rfl⟩ := List.mem_map.mp hd
    exact tu a
  · obtain ⟨a, _, rfl⟩ := List.mem_map.mp hd
    exact decide_eq_true (de a)
  · rw [List.length_map]
    exact decide_eq_true (Nat.le_trans hl (by decide))
/-- the boxes that are left, in order -/
def leftK (A : Hd) : List Ky := ((A.filter fun p => !p.2.2.isEmpty).map (·.1)).mergeSort leK
def leftD (A : Hd) (k : Ky) : D := .tuple [.str (if k.1 then "slot" else "hand"), .int k.2, .tuple ((heldA A k).2.map PyData.str)]
def resD (r : Hd × List Int) : D := .tuple [.tuple (r.2.map PyData.int), .tuple ((leftK r.1).map (leftD r.1))]
theorem keptD_eq (A : Hd) : keptD A = ((A.filter fun p => !p.2.2.isEmpty).map (·.1)).map boxP := by
  unfold keptD
  rw [List.map_map]
  rfl
end Ds.K45
namespace Ds.K45
open PySem PySem.Spec PyProof.Rows L2 Dn TL
theorem trim_keep {n j : Nat} {c : Cl} {s : St} {o : Ob} (h : s[j]? = some o) (hj : j < n) (hb : Ob.below n o = false) : trim n c s = s := by
  unfold trim
  rw [if_neg]
  intro z
  have z := (Bool.and_eq_true _ _ ▸ z : _ ∧ _).2
  have m : o ∈ s.take n := List.mem_of_getElem? (i := j) (by rw [List.getElem?_take_of_lt hj]; exact h)
  have := List.all_eq_true.mp z o m
  rw [hb] at this
  cases this
/-- all of them, by what is answered -/
def goN (as : List D) : List Od → Nat → Hd → List Int → Hd × List Int
  | [], _, A, T => (A, T)
  | o :: os, n, A, T => goN as os (nxA n o) (stepA (anA as n o) A o) (tellA A T o)
theorem cnt_y {o : Od} {os : List Od} (w : wants o = true) : cnt (o :: os) = cnt os + 1 := by unfold cnt; rw [List.filter_cons, if_pos w, List.length_cons]
theorem cnt_n {o : Od} {os : List Od} (w : ¬ wants o = true) : cnt (o :: os) = cnt os := by unfold cnt; rw [List.filter_cons, if_neg w]
theorem goN_ext {as bs : List D} : ∀ {os : List Od} {n : Nat} {A : Hd} {T : List Int}, (∀ j, j < n + cnt os → as[j]? = bs[j]?) → goN as os n A T = goN bs os n A T
  | [], _, _, _, _ => rfl
  | o :: os, n, A, T, h => by
    show goN as os (nxA n o) (stepA (anA as n o) A o) (tellA A T o) = goN bs os (nxA n o) (stepA (anA bs n o) A o) (tellA A T o)
    by_cases w : wants o = true
    · rw [cnt_y w] at h
      have e1 : anA as n o = anA bs n o := by unfold anA; rw [h n (by omega)]
      rw [e1]
      refine goN_ext fun j hj => h j ?_
      rw [show nxA n o = n + 1 from if_pos w] at hj
      omega
    · rw [cnt_n w] at h
      have e1 : anA as n o = anA bs n o := by unfold anA; rw [if_neg w, if_neg w]
      rw [e1]
      refine goN_ext fun j hj => h j ?_
      rw [show nxA n o = n from if_neg w] at hj
      omega
/-- right up to there -/
def RightTo (as : List D) (k : Nat) : Prop := ∀ n, n < k → ∃ a, as[n]? = some (.int a) ∧ 0 ≤ a ∧ a < 10000
section
variable {s : St} {Q : Cl → St → Prop}
theorem init_ (q : ∀ s', Fz s s' → Ho s.length (s.length + 1) [] s' → s'.length = s.length + 2 → Q (.sh .none) s') : FRun f_Holding___init__ [.lo s.length, .sh (.int 0)] (s ++ [.ins "Holding" []]) Q := by
  refine frun_fn rfl ?_
  unfold m_Holding___init__
  repeat walk_at "ds"
  refine ⟨_, app_new, by decide, ?_⟩
  repeat walk_at "ds"
  have h1 : ((s ++ [Ob.ins "Holding" []]).set s.length (.ins "Holding" (putFC "nought" (.sh (.int 0)) [])) ++ [Ob.dt []])[s.length]? = some (.ins "Holding" (putFC "nought" (.sh (.int 0)) [])) := by
    rw [app_old (by simp), set_same (by simp)]
  refine ⟨_, h1, by decide, ?_⟩
  have hl : ((s ++ [Ob.ins "Holding" []]).set s.length (.ins "Holding" (putFC "nought" (.sh (.int 0)) []))).length = s.length + 1 := by simp
  rw [hl]
  have ef : putFC "holds" (.lo (s.length + 1)) (putFC "nought" (.sh (.int 0)) []) = hfs (s.length + 1) := rfl
  rw [ef]
  repeat walk_at "ds"
  have hi : (((s ++ [Ob.ins "Holding" []]).set s.length (.ins "Holding" (putFC "nought" (.sh (.int 0)) [])) ++ [Ob.dt []]).set s.length (.ins "Holding" (hfs (s.length + 1))))[s.length]? = some (.ins "Holding" (hfs (s.length + 1))) := set_same (by simp)
  rw [trim_keep hi (by simp) (by simp [Ob.below, hfs, Cl.below])]
  refine q _ ⟨by simp, fun j hj => ?_⟩ ⟨hi, ?_, by omega⟩ (by simp)
  · rw [set_other (by omega), app_old (by simp; omega), set_other (by omega), app_old hj]
  · rw [set_other (by omega)]
    have : ((s ++ [Ob.ins "Holding" []]).set s.length (.ins "Holding" (putFC "nought" (.sh (.int 0)) [])) ++ [Ob.dt []])[((s ++ [Ob.ins "Holding" []]).set s.length (.ins "Holding" (putFC "nought" (.sh (.int 0)) []))).length]? = some (.dt []) := app_new
    rw [hl] at this
    exact this
theorem run_code {os : List Od} {as : List D} {k : Nat} {YF : Exn → St → Prop} (hl : os.length ≤ 100) (ho : ∀ o ∈ os, OdOk o) (ha : RightTo as k) (hb : k < cnt os → ∀ d, as[k]? = some d → Bad d) (y : ∀ s', Fz s s' → k < cnt os → YF ⟨"NoAnswer", some k⟩ s') (q : ∀ s', Fz s s' → cnt os ≤ k → Q (.sh (resD (goN as os 0 [] []))) s') : FRunX YF f_run_code [.sh (.tuple (os.map encO)), .sh (.tuple as)] s Q := by
  refine frun_fn rfl ?_
  unfold m_run_code
  repeat walk_at "ds"
  refine init_ fun s1 F1 H1 L1 => ?_
  refine ⟨rfl, ?_⟩
  repeat walk_at "ds"
  have em : mergeC [] [(Sum.inr (Str.ofString "answers"), Cl.sh (.int 0)), (Sum.inr (Str.ofString "numbers"), Cl.lo s1.length)] = tkv 0 s1.length := by
    show mergeC [] (tkv 0 s1.length) = tkv 0 s1.length
    unfold mergeC tkv putC
    simp
    decide
  have es : (s1 ++ [Ob.lst []]).length = s1.length + 1 := by simp
  rw [es]
  rw [em]
  have PS0 : PS s.length (s.length + 1) (s1.length + 1) s1.length [] 0 [] (s1 ++ [Ob.lst []] ++ [Ob.dk (tkv 0 s1.length)]) := by
    refine ⟨H1.fz (Fz.app.trans Fz.app), ?_, ?_, by omega, by omega, by omega, by omega, by omega⟩
    · have : (s1 ++ [Ob.lst []] ++ [Ob.dk (tkv 0 s1.length)])[(s1 ++ [Ob.lst []]).length]? = some (.dk (tkv 0 s1.length)) := app_new
      rw [es] at this
      exact this
    · rw [app_old (by simp)]
      exact app_new
  repeat walk_at "ds"
  refine run_forR _ (fun rem e s' => ∃ (os' : List Od) (A : Hd) (n : Nat) (T : List Int) (c : Nat), rem = os'.map encO ∧ PS s.length (s.length + 1) (s1.length + 1) s1.length A n T s' ∧ HdOk c A ∧ c + os'.length ≤ 100 ∧ T.length + os'.length ≤ 100 ∧ (∀ o ∈ os', OdOk o) ∧ (n + cnt os' = cnt os ∧ n ≤ k) ∧ goN as os' n A T = goN as os 0 [] [] ∧ Fz s s' ∧ ∃ z4, e = [.sh (.tuple (os.map encO)), .sh (.tuple as), .lo s.length, .lo (s1.length + 1), z4, .no, .no]) ⟨os, [], 0, [], 0, rfl, PS0, .start, by omega, by simpa using hl, ho, ⟨by omega, by omega⟩, rfl, F1.trans (Fz.app.trans Fz.app), _, rfl⟩ (fun d rem e s' hI => ?_) fun e s' hI => ?_
  · obtain ⟨os', A, n, T, c, hr, P, hA, hc, hT, ho', ha', hg, F2, z4, rfl⟩ := hI
    cases os' with
    | nil => cases hr
    | cons o os' =>
      rw [List.map_cons] at hr
      injection hr with hr1 hr2
      subst hr1
      subst hr2
      rw [List.length_cons] at hc hT
      refine ⟨_, rfl, ?_⟩
      repeat walk_at "ds"
      refine word_of ?_
      repeat walk_at "ds"
      have hcn : (wants o = true → cnt (o :: os') = cnt os' + 1) ∧ (¬ wants o = true → cnt (o :: os') = cnt os') := ⟨cnt_y, cnt_n⟩
      by_cases hbad : wants o = true ∧ n = k
      · obtain ⟨hw, rfl⟩ := hbad
        have hlt : n < cnt os := by have := hcn.1 hw; omega
        exact done_bad P hw (hb hlt) (y s' F2 hlt)
      have hAn : AnOk as n o := fun hw => ha n (by have : ¬ n = k := fun z => hbad ⟨hw, z⟩; omega)
      have hnx : nxA n o + cnt os' = cnt os ∧ nxA n o ≤ k := by
        by_cases hw : wants o = true
        · have h1 := hcn.1 hw
          rw [show nxA n o = n + 1 from if_pos hw]
          have : ¬ n = k := fun z => hbad ⟨hw, z⟩
          omega
        · have h1 := hcn.2 hw
          rw [show nxA n o = n from if_neg hw]
          omega
      refine FRunX.lift (done P hA (by omega) (by omega) (ho' o List.mem_cons_self) hAn fun s2 P2 W2 => ?_)
      repeat walk_at "ds"
      have hg' : goN as os' (nxA n o) (stepA (anA as n o) A o) (tellA A T o) = goN as os 0 [] [] := hg
      have hT' : (tellA A T o).length ≤ T.length + 1 := by
        cases o <;> simp [tellA]
      refine ⟨os', _, _, _, c + 1, rfl, P2, hA.step _ (ho' o List.mem_cons_self), by omega, by omega, fun o' h => ho' o' (List.mem_cons_of_mem _ h), hnx, hg', ⟨Nat.le_trans F2.1 W2.1, fun j hj => ?_⟩, _, rfl⟩
      rw [W2.2 j (Nat.lt_of_lt_of_le hj F2.1) (by omega) (by omega) (by omega)]
      exact F2.2 j hj
  · obtain ⟨os', A, n, T, c, hr, P, hA, hc, hT, ho', ha', hg, F2, z4, rfl⟩ := hI
    have hos : os' = [] := by cases os' with
      | nil => rfl
      | cons _ _ => cases hr
    subst hos
    have hg : (A, T) = goN as os 0 [] [] := hg
    rw [← hg] at q
    have hkk : cnt os ≤ k := by have : cnt ([] : List Od) = 0 := rfl; omega
    repeat walk_at "ds"
    refine ⟨_, P.h.i, rfl, ?_⟩
    repeat walk_at "ds"
    refine kept P.h hA (by omega) ?_
    repeat walk_at "ds"
    have kl : ((A.filter fun p => !p.2.2.isEmpty).map (·.1)).length ≤ 100 := by
      rw [List.length_map]
      exact Nat.le_trans (List.length_filter_le _ _) (Nat.le_trans hA.len (by omega))
    rw [keptD_eq]
    refine ⟨sortB_box (.inl rfl) (Nat.le_trans kl (by decide)), ?_⟩
    rw [sort_boxP]
    repeat walk_at "ds"
    have ll : (leftK A).length ≤ 100 := by
      unfold leftK
      rw [List.length_mergeSort]
      exact kl
    refine ⟨by rw [List.length_map]; exact line_of (by show (leftK A).length ≤ _; omega), ?_⟩
    refine run_compR _ (fun rem ys e s2 => s2 = s' ∧ e = [.sh (.tuple (os.map encO)), .sh (.tuple as), .lo s.length, .lo (s1.length + 1), z4, .no, .no] ∧ ∃ B C : List Ky, leftK A = B ++ C ∧ rem = C.map boxP ∧ ys = B.map (leftD A)) ⟨rfl, rfl, [], leftK A, rfl, rfl, rfl⟩ (fun d rem ys e s2 hJ => ?_) fun ys e s2 hJ => ?_
    · obtain ⟨rfl, rfl, B, C, hks, hr, rfl⟩ := hJ
      cases C with
      | nil => cases hr
      | cons j C =>
        rw [List.map_cons] at hr
        injection hr with hr1 hr2
        subst hr1
        subst hr2
        refine ⟨_, rfl, ?_⟩
        repeat walk_at "ds"
        refine ⟨_, P.h.i, rfl, ?_⟩
        repeat walk_at "ds"
        refine held P.h ?_
        repeat walk_at "ds"
        exact ⟨rfl, rfl, B ++ [j], C, by rw [hks]; simp, rfl, by rw [List.map_append]; rfl⟩
    · obtain ⟨rfl, rfl, B, C, hks, hr, rfl⟩ := hJ
      have hC : C = [] := by cases C with
        | nil => rfl
        | cons _ _ => cases hr
      subst hC
      rw [List.append_nil] at hks
      rw [← hks]
      refine ⟨_, shL_map _, ?_⟩
      repeat walk_at "ds"
      refine ⟨_, _, _, P.k, rfl, rfl, ?_⟩
      repeat walk_at "ds"
      refine ⟨.list (T.map PyData.int), _, ?_, rfl, ?_⟩
      · unfold snap
        dsimp only
        rw [P.l]
        dsimp only
        rw [shL_map]
        rfl
      repeat walk_at "ds"
      exact q _ F2.trim hkk
end
end Ds.K45
namespace Ds.K45
open PySem PySem.Spec PyProof.Rows L2 Dn TL
section
variable {l : Nat} {s : St} {Q : Cl → St → Prop}
theorem draw {n : Int} (S : S2 l s) (hn : 0 < n ∧ n < 1073741824) (h : ∀ (got : Int) (s' : St), 0 ≤ got → got < n → S2 l s' → Fr l s s' → Q (.sh (.int got)) s') : FRun f__law_draw [.lo l, .sh (.int n)] s Q := by
  have hlt := S.lt
  obtain ⟨a, b, hx, h1, h2, h3⟩ := S
  refine frun_fn rfl ?_
  unfold m__law_draw
  repeat walk_at "ds"
  refine ⟨_, ixC_lo hx rfl, ?_⟩
  repeat walk_at "ds"
  refine two_dec (fun h6 => ?_) (fun h6 => ?_)
  · repeat walk_at "ds"
    refine ⟨_, ixC_lo hx rfl, ?_⟩
    repeat walk_at "ds"
    refine ⟨_, ixC_lo hx rfl, ?_⟩
    repeat walk_at "ds"
    refine ⟨_, _, 0, hx, rfl, rfl, ?_⟩
    repeat walk_at "ds"
    exact h _ _ (Int.emod_nonneg _ (by omega)) (Int.emod_lt_of_pos _ hn.1) (S2.trim ⟨a / n, b, set_same hlt, Int.ediv_nonneg h1 (by omega), h2, h3⟩ hlt) Fr.set.trim
  · repeat walk_at "ds"
    refine ⟨_, ixC_lo hx rfl, ?_⟩
    repeat walk_at "ds"
    refine ⟨_, _, 1, hx, rfl, rfl, ?_⟩
    repeat walk_at "ds"
    refine ⟨_, ixC_lo (set_same hlt) rfl, ?_⟩
    repeat walk_at "ds"
    exact h _ _ (Int.emod_nonneg _ (by omega)) (Int.emod_lt_of_pos _ hn.1) (S2.trim ⟨a, _, set_same hlt, h1, Int.emod_nonneg _ (by omega), Int.lt_trans (Int.emod_lt_of_pos _ (by omega)) (by omega)⟩ hlt) Fr.set.trim
theorem begin_ {c : Int} (h : ∀ s', S2 s.length s' → s'.length = s.length + 1 → Q (.lo s.length) s') : FRun f__law_begin [.sh (.int c)] s Q := by
  refine frun_fn rfl ?_
  unfold m__law_begin
  have b0 : 0 ≤ c % 2147483647 + c / 2147483647 % 1000003 + 3 ∧ c % 2147483647 + c / 2147483647 % 1000003 + 3 < 4294967296 := by omega
  repeat walk_at "ds"
  refine two_dec (fun h6 => ?_) (fun h6 => ?_)
  · repeat walk_at "ds"
    rw [trim_lo (Nat.le_refl _)]
    exact h _ ⟨_, _, app_new, by omega, b0⟩ (by simp)
  · repeat walk_at "ds"
    rw [trim_lo (Nat.le_refl _)]
    have : (0 : Int) ≤ 10 ^ (18 : Int).toNat := by decide
    exact h _ ⟨_, _, app_new, by omega, b0⟩ (by simp)
theorem cell_at {ns : List Int} {k : Int} (hk : 0 ≤ k) (h : ∀ c : Int, Q (.sh (.int c)) s) : FRun f__law_cell_at [.sh (.list (ns.map PyData.int)), .sh (.int k)] s Q := by
  refine frun_fn rfl ?_
  unfold m__law_cell_at
  repeat walk_at "ds"
  refine two_dec (fun h6 => ?_) (fun h6 => ?_)
  · repeat walk_at "ds"
    rw [List.length_map] at h6
    have hlt : k.toNat < ns.length := by omega
    refine bx_ix_lst (d := .int ns[k.toNat]) ?_ ?_
    · unfold atI ixN
      rw [List.length_map, if_pos hk, if_pos h6]
      simp [hlt]
    repeat walk_at "ds"
    rw [trim_len rfl]
    exact h _
  · repeat walk_at "ds"
    rw [trim_len rfl]
    exact h _
theorem order {hs : Int} (S : S2 l s) (hh : 3 ≤ hs ∧ hs ≤ 8) (h : ∀ (o : Od) (s' : St), OdOk o → S2 l s' → Fr l s s' → Q (.sh (encO o)) s') : FRun f__law_order [.lo l, .sh (.int hs)] s Q := by
  have hl := S.lt
  refine frun_fn rfl ?_
  unfold m__law_order
  repeat walk_at "ds"
  refine run_compL _ (fun i ys e s' => ∃ is : List Int, ys = is.map PyData.int ∧ is.length = i ∧ S2 l s' ∧ Fr l s s' ∧ e = [.lo l, .sh (.int hs), .no, .no, .no, .no, .no]) ⟨[], rfl, rfl, S, Fr.refl _ _, rfl⟩ (fun i d ys e s' hd hJ => ?_) fun ys e s' hJ => ?_
  · obtain ⟨is, rfl, e2, S2, F2, rfl⟩ := hJ
    refine ⟨_, rfl, ?_⟩
    repeat walk_at "ds"
    refine draw S2 (by omega) fun n1 s1 a1 b1 S1 F1 => ?_
    repeat walk_at "ds"
    exact ⟨is ++ [n1], by simp, by simp [e2], S1, F2.trans F1, rfl⟩
  · obtain ⟨is, rfl, e2, S2, F2, rfl⟩ := hJ
    rw [rngD_length] at e2
    match is, e2 with
    | [h1, h2, h3], _ =>
    refine ⟨_, shL_map _, ?_⟩
    repeat walk_at "ds"
    refine draw S2 (by omega) fun b s3 a3 b3 S3 F3 => ?_
    repeat walk_at "ds"
    refine draw S3 (by simp) fun n4 s4 a4 b4 S4 F4 => ?_
    repeat walk_at "ds"
    refine bx_ix_in a4 b4 fun d hd => ?_
    have hd : d ∈ [encO (.take h1 "key"), encO (.ask h1), encO (.ask h1), encO (.take h1 "pin"), encO (.number h1 5), encO (.copy h1 h2), encO (.mix h1 h2 h3), encO (.tell h1), encO (.wipe h1), encO (.lay b h1), encO (.opn h1 h2)] := hd
    obtain ⟨o, rfl, ho⟩ : ∃ o, d = encO o ∧ OdOk o := by
      simp only [List.mem_cons, List.not_mem_nil, or_false] at hd
      rcases hd with rfl | rfl | rfl | rfl | rfl | rfl | rfl | rfl | rfl | rfl | rfl
      · exact ⟨_, rfl, by simp [OdOk, W6]⟩
      · exact ⟨_, rfl, trivial⟩
      · exact ⟨_, rfl, trivial⟩
      · exact ⟨_, rfl, by simp [OdOk, W6]⟩
      all_goals exact ⟨_, rfl, trivial⟩
    repeat walk_at "ds"
    exact h o _ ho (S4.trim hl) (F2.trans (F3.trans F4)).trim
theorem is_number {n : Int} (q : Q (.sh (.bool true)) s) : FRun f__law_is_number [.sh (.int n), .sh (.int n)] s Q := by
  refine frun_fn rfl ?_
  unfold m__law_is_number
  repeat walk_at "ds"
  rw [trim_len rfl]
  have e : PyData.eqv (.int n) (.int n) = true := by rw [Dn.eqv_int]; exact decide_eq_true rfl
  first
    | exact q
    | (rw [e]; exact q)
    | simpa using q
theorem refused {os : List Od} {as : List D} {k : Nat} (hl : os.length ≤ 100) (ho : ∀ o ∈ os, OdOk o) (ha : RightTo as k) (hk : k < cnt os) (hb : ∀ d, as[k]? = some d → Bad d) (q : ∀ s', Fz s s' → Q (.sh (.int k)) s') : FRun f__law_refused [.sh (.tuple (os.map encO)), .sh (.tuple as)] s Q := by
  refine frun_fn rfl ?_
  unfold m__law_refused
  repeat walk_at "ds"
  refine run_tryAs ?_
  repeat walk_at "ds"
  refine run_code hl ho ha (fun _ => hb) (fun s' F _ => ?_) fun s' F z => absurd hk (by omega)
  refine ⟨true, rfl, fun _ => ⟨by show 3 < 5; decide, ?_⟩, fun z => nomatch z⟩
  refine run_msHit ?_
  repeat walk_at "ds"
  exact q _ F.trim
theorem not_refused {os : List Od} {as : List D} (hl : os.length ≤ 100) (ho : ∀ o ∈ os, OdOk o) (ha : RightTo as (cnt os)) (q : ∀ s', Fz s s' → Q (.sh .none) s') : FRun f__law_refused [.sh (.tuple (os.map encO)), .sh (.tuple as)] s Q := by
  refine frun_fn rfl ?_
  unfold m__law_refused
  repeat walk_at "ds"
  refine run_tryAs ?_
  repeat walk_at "ds"
  refine run_code hl ho ha (fun z => absurd z (by omega)) (fun s' F z => absurd z (by omega)) fun s' F z => ?_
  repeat walk_at "ds"
  exact q _ F.trim
end
end Ds.K45
namespace Ds.K45
open PySem PySem.Spec PyProof.Rows L2 Dn TL
def nmO : Od → Str
  | .take _ _ => "take"
  | .ask _ => "ask"
  | .number _ _ => "number"
  | .copy _ _ => "copy"
  | .mix _ _ _ => "mix"
  | .opn _ _ => "open"
  | .tell _ => "tell"
  | .wipe _ => "wipe"
  | .lay _ _ => "lay"
  | .fetch _ _ => "fetch"
  | .clean _ => "clean"
theorem ix0 (o : Od) : dIx (encO o) (.int 0) = some (.str (nmO o)) := by cases o <;> rfl
theorem in_ta (o : Od) : inD (.str (nmO o)) [.str "take", .str "ask"] = wants o := by cases o <;> rfl
theorem resD_sh {r : Hd × List Int} {c : Nat} (h : HdOk c r.1) : Sh 4 (resD r) := Sh.tup fun d hd => by
  simp at hd
  rcases hd with rfl | rfl
  · exact Sh.tup fun d hd => by
      obtain ⟨i, _, rfl⟩ := List.mem_map.mp hd
      exact Sh.int
  · refine Sh.tup fun d hd => ?_
    obtain ⟨k, _, rfl⟩ := List.mem_map.mp hd
    refine Sh.tup fun d hd => ?_
    simp at hd
    rcases hd with rfl | rfl | rfl
    · cases k.1
      · exact Sh.str (n := 10) (Ok.lit _ _ (by decide))
      · exact Sh.str (n := 10) (Ok.lit _ _ (by decide))
    · exact Sh.int
    · exact (Sh.strs (k := 0) (h.held k).ok)
theorem goN_ok {as : List D} : ∀ {os : List Od} {n : Nat} {A : Hd} {T : List Int} {c : Nat}, HdOk c A → (∀ o ∈ os, OdOk o) → ∃ c', HdOk c' (goN as os n A T).1
  | [], _, _, _, c, h, _ => ⟨c, h⟩
  | o :: os, n, A, T, c, h, ho => goN_ok (os := os) (h.step _ (ho o List.mem_cons_self)) fun o' h => ho o' (List.mem_cons_of_mem _ h)
theorem cnt_app {xs ys : List Od} : cnt (xs ++ ys) = cnt xs + cnt ys := by unfold cnt; rw [List.filter_append, List.length_append]
/-- the answers, then what is no answer, then anything -/
theorem right_take {as : List Int} {k : Nat} {r : List D} (hab : ∀ a ∈ as, 0 ≤ a ∧ a < 10000) (hk : k ≤ as.length) : RightTo ((as.take k).map PyData.int ++ r) k := fun n hn => by
  have h1 : n < as.length := by omega
  refine ⟨as[n], ?_, hab _ (List.getElem_mem h1)⟩
  rw [List.getElem?_append_left (by rw [List.length_map, List.length_take]; omega), List.getElem?_map, List.getElem?_take_of_lt hn, List.getElem?_eq_getElem h1]
  rfl
theorem at_take {as : List Int} {k : Nat} {d : D} {r : List D} (hk : k ≤ as.length) : ((as.take k).map PyData.int ++ d :: r)[k]? = some d := by
  have e : ((as.take k).map PyData.int).length = k := by rw [List.length_map, List.length_take]; omega
  rw [List.getElem?_append_right (by omega), e, Nat.sub_self]
  rfl
theorem cut_lo {xs : List D} {k : Nat} : Dn.cutD xs none (some (k : Int)) = xs.take k := by
  unfold Dn.cutD HT.sIx
  dsimp only
  rw [if_neg (by omega), Int.toNat_natCast, Nat.sub_zero, List.drop_zero]
  by_cases h : k ≤ xs.length
  · rw [Nat.min_eq_left h]
  · rw [Nat.min_eq_right (by omega), List.take_length, List.take_of_length_le (by omega)]
theorem cut_hi {xs : List D} {k : Nat} : Dn.cutD xs (some (k : Int)) none = xs.drop k := by
  unfold Dn.cutD HT.sIx
  dsimp only
  rw [if_neg (by omega), Int.toNat_natCast]
  by_cases h : k ≤ xs.length
  · rw [Nat.min_eq_left h]
    exact List.take_of_length_le (by rw [List.length_drop]; exact Nat.le_refl _)
  · rw [Nat.min_eq_right (by omega), Nat.sub_self, List.take_zero, List.drop_of_length_le (by omega)]
def oddL (n : Int) : List D := [.int 10000, .int (-1), .int (10 ^ (12 : Int).toNat + n), .bool true, .none, .str "5", .tuple [.int 1], .bool false]
theorem odd_bad {n : Int} (h : 0 ≤ n) {d : D} (hd : d ∈ oddL n) : Bad d := by
  have e12 : ((10 : Int) ^ (12 : Int).toNat + n) = 1000000000000 + n := by congr 1
  unfold oddL at hd
  rw [e12] at hd
  simp only [List.mem_cons, List.not_mem_nil, or_false] at hd
  rcases hd with rfl | rfl | rfl | rfl | rfl | rfl | rfl | rfl
  · exact .int _ (by omega)
  · exact .int _ (by omega)
  · exact .int _ (by omega)
  · exact .bl _
  · exact .non
  · exact .str _
  · exact .tup _
  · exact .bl _
/-- a row of answers that is refused at k -/
def Off (k : Nat) (as : List D) : Prop := RightTo as k ∧ ∀ d, as[k]? = some d → Bad d
end Ds.K45
namespace Ds.K45
open PySem PySem.Spec PyProof.Rows L2 Dn TL
def turnE (ns : List Int) (i_ n1 : Int) (l : Nat) (os : List Od) (ci : Int) (as : List Int) (od : List D) (z8 z9 z10 z11 z12 z13 : Cl) : Ev := [.sh (.list (ns.map PyData.int)), .sh (.int (0 + i_)), .lo l, .sh (.int (3 + n1)), .sh (.tuple (os.map encO)), .sh (.int ci), .sh (.tuple (as.map PyData.int)), .sh (.list od), z8, z9, z10, z11, z12, z13, .no, .no]
theorem good : Good := by
  intro ns hns
  suffices H : FRun f_law [.sh (.list (ns.map PyData.int))] [] fun c s => c = .sh (.bool true) by
    obtain ⟨c, s', h1, rfl⟩ := H.to
    exact ⟨s', h1⟩
  refine frun_fn rfl ?_
  unfold m_law
  repeat walk_at "ds"
  generalize hv : (if (if (4 : Int) < ((ns.map PyData.int).length : Int) then (4 : Int) else ((ns.map PyData.int).length : Int)) > 1 then (if (4 : Int) < ((ns.map PyData.int).length : Int) then (4 : Int) else ((ns.map PyData.int).length : Int)) else 1) = v
  clear hv
  refine run_forL _ (fun i e s' => ∃ z1 z2 z3 z4 z5 z6 z7 z8 z9 z10 z11 z12 z13, e = [.sh (.list (ns.map PyData.int)), z1, z2, z3, z4, z5, z6, z7, z8, z9, z10, z11, z12, z13, .no, .no]) ⟨_, _, _, _, _, _, _, _, _, _, _, _, _, rfl⟩ (fun i_ d e s' hd hI => ?_) fun e s' hI => ?_
  · obtain ⟨z1, z2, z3, z4, z5, z6, z7, z8, z9, z10, z11, z12, z13, rfl⟩ := hI
    obtain ⟨rfl, hi⟩ := rngD_at hd
    refine ⟨_, rfl, ?_⟩
    repeat walk_at "ds"
    refine cell_at (by omega) fun c => ?_
    repeat walk_at "ds"
    refine begin_ fun s1 S1 L1 => ?_
    repeat walk_at "ds"
    generalize s'.length = l at S1 ⊢
    refine draw S1 (by omega) fun n1 s3 a3 b3 S3 F3 => ?_
    repeat walk_at "ds"
    refine draw S3 (by omega) fun n6 s7 a7 b7 S7 F7 => ?_
    repeat walk_at "ds"
    refine ⟨by rw [rngD_length]; exact line_of (by omega), ?_⟩
    refine run_compL _ (fun i ys e s' => ∃ os : List Od, ys = os.map encO ∧ os.length = i ∧ (∀ o ∈ os, OdOk o) ∧ S2 l s' ∧ e = [.sh (.list (ns.map PyData.int)), .sh (.int (0 + i_)), .lo l, .sh (.int (3 + n1)), z4, z5, z6, z7, z8, z9, z10, z11, z12, z13, .no, .no]) ⟨[], rfl, rfl, by simp, S7, rfl⟩ (fun i d ys e s' hd hJ => ?_) fun ys e s8 hJ => ?_
    · obtain ⟨os, rfl, e3, ho, S2', rfl⟩ := hJ
      refine ⟨_, rfl, ?_⟩
      repeat walk_at "ds"
      refine order S2' (by omega) fun o s9 ho1 S9 F9 => ?_
      repeat walk_at "ds"
      refine ⟨os ++ [o], by simp, by simp [e3], fun o' ho' => ?_, S9, rfl⟩
      rcases List.mem_append.mp ho' with q | q
      · exact ho o' q
      · simp at q; subst q; exact ho1
    · obtain ⟨os0, rfl, e3, ho0, S8, rfl⟩ := hJ
      rw [rngD_length] at e3
      refine ⟨_, shL_map _, ?_⟩
      repeat walk_at "ds"
      refine bx_add_tup (line_of (by rw [List.length_map]; simp; omega)) ?_
      obtain ⟨os, eos, ho, hol, hcp⟩ : ∃ os : List Od, os0.map encO ++ [.tuple [.str "ask", .int 0], .tuple [.str "tell", .int 0]] = os.map encO ∧ (∀ o ∈ os, OdOk o) ∧ os.length ≤ 22 ∧ 1 ≤ cnt os := by
        refine ⟨os0 ++ [.ask 0, .tell 0], by rw [List.map_append]; rfl, fun o' ho' => ?_, by rw [List.length_append]; simp; omega, ?_⟩
        · rcases List.mem_append.mp ho' with q | q
          · exact ho0 o' q
          · simp at q; rcases q with rfl | rfl <;> trivial
        · rw [cnt_app]
          have : cnt [.ask 0, .tell 0] = 1 := rfl
          omega
      rw [eos]
      repeat walk_at "ds"
      refine ⟨by rw [List.length_map]; exact line_of (by omega), ?_⟩
      refine run_compR _ (fun rem ys e s' => s' = s8 ∧ e = [.sh (.list (ns.map PyData.int)), .sh (.int (0 + i_)), .lo l, .sh (.int (3 + n1)), .sh (.tuple (os.map encO)), z5, z6, z7, z8, z9, z10, z11, z12, z13, .no, .no] ∧ ∃ B C : List Od, os = B ++ C ∧ rem = C.map encO ∧ ys = (B.filter wants).map encO) ⟨rfl, rfl, [], os, rfl, rfl, rfl⟩ (fun d rem ys e s' hJ => ?_) fun ys e s' hJ => ?_
      · obtain ⟨rfl, rfl, B, C, hks, hr, rfl⟩ := hJ
        cases C with
        | nil => cases hr
        | cons o C =>
          rw [List.map_cons] at hr
          injection hr with hr1 hr2
          subst hr1
          subst hr2
          refine ⟨_, rfl, ?_⟩
          repeat walk_at "ds"
          refine ⟨_, ix0 o, ?_⟩
          repeat walk_at "ds"
          refine ⟨fun hb => ?_, fun hb => ?_⟩
          · have hb : wants o = true := (in_ta o).symm.trans hb
            repeat walk_at "ds"
            exact ⟨rfl, rfl, B ++ [o], C, by rw [hks]; simp, rfl, by rw [List.filter_append, List.map_append]; simp [hb]⟩
          · have hb : wants o = false := (in_ta o).symm.trans hb
            repeat walk_at "ds"
            exact ⟨rfl, rfl, B ++ [o], C, by rw [hks]; simp, rfl, by rw [List.filter_append, List.map_append]; simp [hb]⟩
      · obtain ⟨rfl, rfl, B, C, hks, hr, rfl⟩ := hJ
        have hC : C = [] := by cases C with
          | nil => rfl
          | cons _ _ => cases hr
        subst hC
        rw [List.append_nil] at hks
        subst hks
        refine ⟨_, shL_map _, ?_⟩
        have hcn : ((os.filter wants).map encO).length = cnt os := by rw [List.length_map]; rfl
        have hcl : cnt os ≤ os.length := List.length_filter_le _ _
        generalize (os.filter wants).map encO = wos at hcn ⊢
        obtain ⟨cn, ecn⟩ : ∃ cn, cn = cnt os := ⟨_, rfl⟩
        rw [← ecn] at hcn hcl hcp
        iterate 6 walk_at "ds"
        rw [hcn]
        obtain ⟨ci, hci, c0, c1⟩ : ∃ ci : Int, ci = (cn : Int) ∧ 1 ≤ ci ∧ ci ≤ 40 := ⟨_, rfl, by omega, by omega⟩
        rw [← hci]
        repeat walk_at "ds"
        refine ⟨by rw [rngD_length]; exact line_of (by omega), ?_⟩
        refine run_compL _ (fun i ys e s' => ∃ as : List Int, ys = as.map PyData.int ∧ as.length = i ∧ (∀ a ∈ as, 0 ≤ a ∧ a < 10000) ∧ S2 l s' ∧ e = [.sh (.list (ns.map PyData.int)), .sh (.int (0 + i_)), .lo l, .sh (.int (3 + n1)), .sh (.tuple (os.map encO)), .sh (.int ci), z6, z7, z8, z9, z10, z11, z12, z13, .no, .no]) ⟨[], rfl, rfl, by simp, S8, rfl⟩ (fun i d ys e s' hd hJ => ?_) fun ys e s9 hJ => ?_
        · obtain ⟨as, rfl, e4, hab, S2', rfl⟩ := hJ
          refine ⟨_, rfl, ?_⟩
          repeat walk_at "ds"
          refine draw S2' (by omega) fun m s11 x1 y1 T1 G1 => ?_
          repeat walk_at "ds"
          refine ⟨as ++ [m], by simp, by simp [e4], fun a ha => ?_, T1, rfl⟩
          rcases List.mem_append.mp ha with q | q
          · exact hab a q
          · simp at q; subst q; exact ⟨x1, y1⟩
        · obtain ⟨as, rfl, e4, hab, S9, rfl⟩ := hJ
          rw [rngD_length] at e4
          have e4 : as.length = cn := by omega
          refine ⟨_, shL_map _, ?_⟩
          repeat walk_at "ds"
          refine draw S9 (by omega) fun m9 s10 a10 b10 S10 F10 => ?_
          repeat walk_at "ds"
          have hod : ∀ d ∈ oddL m9, Bad d := fun d hd => odd_bad a10 hd
          have hrt : ∀ r, RightTo (as.map PyData.int ++ r) (cnt os) := fun r => by
            have h := right_take (k := as.length) (r := r) hab (Nat.le_refl _)
            rw [List.take_length, e4, ecn] at h
            exact h
          have runs : ∀ (r : List D) (s : St) (Q : Cl → St → Prop), (∀ s', Fz s s' → Q (.sh (resD (goN (as.map PyData.int) os 0 [] []))) s') → FRun f_run_code [.sh (.tuple (os.map encO)), .sh (.tuple (as.map PyData.int ++ r))] s Q := fun r s Q hq => by
            refine run_code (k := cnt os) (by omega) ho (hrt r) (fun z => absurd z (by omega)) (fun s' F z => absurd z (by omega)) fun s' F _ => ?_
            have e := goN_ext (as := as.map PyData.int ++ r) (bs := as.map PyData.int) (os := os) (n := 0) (A := []) (T := []) (fun j hj => by rw [List.getElem?_append_left (by rw [List.length_map]; omega)])
            rw [e]
            exact hq s' F
          obtain ⟨cc, hok⟩ := goN_ok (as := as.map PyData.int) (os := os) (n := 0) (A := []) (T := []) HdOk.start ho
          have shr := resD_sh hok
          have hs0 : isStr (resD (goN (as.map PyData.int) os 0 [] [])) = false := rfl
          generalize resD (goN (as.map PyData.int) os 0 [] []) = rd at shr runs hs0
          have r0 := runs []
          rw [List.append_nil] at r0
          refine r0 _ _ fun s11 F11 => ?_
          have S11 : S2 l s11 := S10.of (F11.2 l S10.lt)
          repeat walk_at "ds"
          refine draw S11 (by omega) fun m1 s12 a12 b12 S12 F12 => ?_
          repeat walk_at "ds"
          refine bx_ix_in a12 b12 fun d hd => ?_
          have hd : d ∈ oddL m9 := hd
          repeat walk_at "ds"
          refine bx_add_tup (line_of (by rw [List.length_map]; simp; omega)) ?_
          repeat walk_at "ds"
          refine runs [d] _ _ fun s13 F13 => ?_
          have S13 : S2 l s13 := S12.of (F13.2 l S12.lt)
          repeat walk_at "ds"
          refine bx_ne (.inl hs0) shr.ok shr.ok ?_
          rw [shr.same]
          repeat walk_at "ds"
          refine run_forL _ (fun j e s' => S2 l s' ∧ ∃ z8 z9 z10 z11 z12 z13, e = turnE ns i_ n1 l os ci as (oddL m9) z8 z9 z10 z11 z12 z13) ⟨S13, _, _, _, _, _, _, rfl⟩ (fun j d e s' hd hI => ?_) fun e s' hI => ?_
          · obtain ⟨S14, z8, z9, z10, z11, z12, z13, rfl⟩ := hI
            obtain ⟨rfl, hj⟩ := rngD_at hd
            refine ⟨_, rfl, ?_⟩
            unfold turnE
            repeat walk_at "ds"
            refine draw S14 (by omega) fun at_ s15 a15 b15 S15 F15 => ?_
            obtain ⟨k, rfl⟩ := Int.eq_ofNat_of_zero_le a15
            have hk : k < as.length := by omega
            have hkc : k < cnt os := by omega
            repeat walk_at "ds"
            rw [cut_lo, ← List.map_take]
            repeat walk_at "ds"
            refine draw S15 (by omega) fun m2 s16 a16 b16 S16 F16 => ?_
            repeat walk_at "ds"
            refine bx_ix_in a16 b16 fun d hd => ?_
            repeat walk_at "ds"
            refine bx_add_tup (line_of (by rw [List.length_map, List.length_take]; simp; omega)) ?_
            repeat walk_at "ds"
            have ek : ((k : Int) + 1) = ((k + 1 : Nat) : Int) := by omega
            rw [ek, cut_hi, ← List.map_drop]
            have eb : ((as.take k).map PyData.int ++ [d]) ++ (as.drop (k + 1)).map PyData.int = (as.take k).map PyData.int ++ d :: (as.drop (k + 1)).map PyData.int := by simp
            refine bx_add_tup (line_of (by simp; omega)) ?_
            rw [eb]
            repeat walk_at "ds"
            rw [ek, cut_lo]
            have et : ((as.take k).map PyData.int ++ d :: (as.drop (k + 1)).map PyData.int).take (k + 1) = (as.take k).map PyData.int ++ [d] := by
              rw [← eb]
              refine List.take_left' ?_
              rw [List.length_append, List.length_map, List.length_take]
              simp
              omega
            rw [et]
            refine draw S16 (by omega) fun m3 s17 a17 b17 S17 F17 => ?_
            repeat walk_at "ds"
            refine ⟨by rw [rngD_length]; exact line_of (by omega), ?_⟩
            refine run_compL _ (fun i ys e s' => ys.length = i ∧ S2 l s' ∧ e = [.sh (.list (ns.map PyData.int)), .sh (.int (0 + i_)), .lo l, .sh (.int (3 + n1)), .sh (.tuple (os.map encO)), .sh (.int ci), .sh (.tuple (as.map PyData.int)), .sh (.list (oddL m9)), .sh (.int (0 + j)), .sh (.int k), .sh (.tuple ((as.take k).map PyData.int)), .sh (.tuple ((as.take k).map PyData.int ++ d :: (as.drop (k + 1)).map PyData.int)), z12, z13, .no, .no]) ⟨rfl, S17, rfl⟩ (fun i d2 ys e s' hd2 hJ => ?_) fun ys e s' hJ => ?_
            · obtain ⟨e5, S18, rfl⟩ := hJ
              refine ⟨_, rfl, ?_⟩
              repeat walk_at "ds"
              refine draw S18 (by omega) fun m4 s19 a19 b19 S19 F19 => ?_
              repeat walk_at "ds"
              refine bx_ix_in a19 b19 fun d3 hd3 => ?_
              repeat walk_at "ds"
              exact ⟨by simp [e5], S19, rfl⟩
            · obtain ⟨e5, S18, rfl⟩ := hJ
              rw [rngD_length] at e5
              refine ⟨_, shL_map _, ?_⟩
              repeat walk_at "ds"
              refine bx_add_tup (line_of (by simp; omega)) ?_
              repeat walk_at "ds"
              have odd : ∀ r, Off k ((as.take k).map PyData.int ++ d :: r) := fun r => ⟨right_take hab (by omega), fun d' hd' => by
                rw [at_take (by omega)] at hd'
                cases hd'
                exact hod d hd⟩
              have less : Off k ((as.take k).map PyData.int) := ⟨by
                have := right_take (k := k) (r := []) hab (by omega)
                rwa [List.append_nil] at this, fun d' hd' => by
                have := (List.getElem?_eq_some_iff.mp hd').1
                rw [List.length_map, List.length_take] at this
                omega⟩
              have eo : (as.take k).map PyData.int ++ [d] ++ ys = (as.take k).map PyData.int ++ d :: ys := by simp
              rw [eo]
              refine run_forR _ (fun rem e s' => S2 l s' ∧ (∃ exs : List (List D), rem = exs.map PyData.tuple ∧ ∀ x ∈ exs, Off k x) ∧ ∃ z13, e = [.sh (.list (ns.map PyData.int)), .sh (.int (0 + i_)), .lo l, .sh (.int (3 + n1)), .sh (.tuple (os.map encO)), .sh (.int ci), .sh (.tuple (as.map PyData.int)), .sh (.list (oddL m9)), .sh (.int (0 + j)), .sh (.int k), .sh (.tuple ((as.take k).map PyData.int)), .sh (.tuple ((as.take k).map PyData.int ++ d :: (as.drop (k + 1)).map PyData.int)), .sh (.tuple ((as.take k).map PyData.int ++ d :: ys)), z13, .no, .no]) ⟨S18, ⟨[(as.take k).map PyData.int, (as.take k).map PyData.int ++ d :: (as.drop (k + 1)).map PyData.int, (as.take k).map PyData.int ++ d :: ys, (as.take k).map PyData.int], rfl, fun x hx => by
                simp only [List.mem_cons, List.not_mem_nil, or_false] at hx
                rcases hx with rfl | rfl | rfl | rfl
                · exact less
                · exact odd _
                · exact odd _
                · exact less⟩, _, rfl⟩ (fun d3 rem e s' hI => ?_) fun e s' hI => ?_
              · obtain ⟨S20, ⟨exs, hr, hx⟩, z13, rfl⟩ := hI
                cases exs with
                | nil => cases hr
                | cons x exs =>
                  rw [List.map_cons] at hr
                  injection hr with hr1 hr2
                  subst hr1
                  subst hr2
                  have hx0 := hx x List.mem_cons_self
                  refine ⟨_, rfl, ?_⟩
                  repeat walk_at "ds"
                  refine refused (by omega) ho hx0.1 hkc hx0.2 fun s21 F21 => ?_
                  repeat walk_at "ds"
                  refine is_number ?_
                  repeat walk_at "ds"
                  exact ⟨S20.of (F21.2 l S20.lt), ⟨exs, rfl, fun y hy => hx y (List.mem_cons_of_mem _ hy)⟩, _, rfl⟩
              · obtain ⟨S20, _, z13, rfl⟩ := hI
                repeat walk_at "ds"
                have hr2 := hrt []
                rw [List.append_nil] at hr2
                refine not_refused (by omega) ho hr2 fun s21 F21 => ?_
                repeat walk_at "ds"
                exact ⟨S20.of (F21.2 l S20.lt), _, _, _, _, _, _, rfl⟩
          · obtain ⟨S14, z8, z9, z10, z11, z12, z13, rfl⟩ := hI
            unfold turnE
            repeat walk_at "ds"
            exact ⟨_, _, _, _, _, _, _, _, _, _, _, _, _, rfl⟩
  · obtain ⟨z1, z2, z3, z4, z5, z6, z7, z8, z9, z10, z11, z12, z13, rfl⟩ := hI
    repeat walk_at "ds"
    rfl
end Ds.K45
namespace Ds.K45
open PySem PySem.Spec PyProof.Rows L2 Dn
def topS (i : Nat) : Stmt := PySem.Challenge.pw_wipeways_k45_answers_that_lack.main.body.getD i (.Pass ⟨0, 0, 0, 0⟩)
abbrev s_is_below : Stmt := topS 11
abbrev N_is_below : List Str := ["thing", "end"]
theorem sc_is_below : FnScope N_is_below ["thing", "end"] (defScope s_is_below) := ⟨rfl, rfl, rfl, by decide +kernel, rfl, by decide +kernel, by decide +kernel⟩
abbrev s_word_of : Stmt := topS 12
abbrev N_word_of : List Str := ["order", "hand"]
theorem sc_word_of : FnScope N_word_of ["order"] (defScope s_word_of) := ⟨rfl, rfl, rfl, by decide +kernel, rfl, by decide +kernel, by decide +kernel⟩
abbrev s_number_behind : Stmt := topS 14
abbrev N_number_behind : List Str := ["word", "numbers"]
theorem sc_number_behind : FnScope N_number_behind ["word", "numbers"] (defScope s_number_behind) := ⟨rfl, rfl, rfl, by decide +kernel, rfl, by decide +kernel, by decide +kernel⟩
abbrev s_answer_at : Stmt := topS 15
abbrev N_answer_at : List Str := ["answers", "number"]
theorem sc_answer_at : FnScope N_answer_at ["answers", "number"] (defScope s_answer_at) := ⟨rfl, rfl, rfl, by decide +kernel, rfl, by decide +kernel, by decide +kernel⟩
abbrev s_worths_of : Stmt := topS 16
abbrev N_worths_of : List Str := ["word", "there", "found", "one", "some"]
theorem sc_worths_of : FnScope N_worths_of ["word", "there"] (defScope s_worths_of) := ⟨rfl, rfl, rfl, by decide +kernel, rfl, by decide +kernel, by decide +kernel⟩
abbrev s_Holding_held : Stmt := inClass (topS 13) 1
abbrev N_Holding_held : List Str := ["self", "box"]
theorem sc_Holding_held : FnScope N_Holding_held ["self", "box"] (defScope s_Holding_held) := ⟨rfl, rfl, rfl, by decide +kernel, rfl, by decide +kernel, by decide +kernel⟩
abbrev s_Holding_lay : Stmt := inClass (topS 13) 2
abbrev N_Holding_lay : List Str := ["self", "box", "thing", "worths"]
theorem sc_Holding_lay : FnScope N_Holding_lay ["self", "box", "thing", "worths"] (defScope s_Holding_lay) := ⟨rfl, rfl, rfl, by decide +kernel, rfl, by decide +kernel, by decide +kernel⟩
abbrev s_done : Stmt := topS 17
abbrev N_done : List Str := ["holding", "word", "answers", "told", "worths", "there", "box", "number", "some"]
theorem sc_done : FnScope N_done ["holding", "word", "answers", "told"] (defScope s_done) := ⟨rfl, rfl, rfl, by decide +kernel, rfl, by decide +kernel, by decide +kernel⟩
abbrev s_Holding___init__ : Stmt := inClass (topS 13) 0
abbrev N_Holding___init__ : List Str := ["self", "nought"]
theorem sc_Holding___init__ : FnScope N_Holding___init__ ["self", "nought"] (defScope s_Holding___init__) := ⟨rfl, rfl, rfl, by decide +kernel, rfl, by decide +kernel, by decide +kernel⟩
abbrev s_Holding_kept : Stmt := inClass (topS 13) 3
abbrev N_Holding_kept : List Str := ["self", "box"]
theorem sc_Holding_kept : FnScope N_Holding_kept ["self"] (defScope s_Holding_kept) := ⟨rfl, rfl, rfl, by decide +kernel, rfl, by decide +kernel, by decide +kernel⟩
abbrev s_run_code : Stmt := topS 18
abbrev N_run_code : List Str := ["code", "answers", "holding", "told", "order", "left", "box"]
theorem sc_run_code : FnScope N_run_code ["code", "answers"] (defScope s_run_code) := ⟨rfl, rfl, rfl, by decide +kernel, rfl, by decide +kernel, by decide +kernel⟩
abbrev s__law_cell_at : Stmt := topS 20
abbrev N__law_cell_at : List Str := ["_law_script", "_law_k"]
theorem sc__law_cell_at : FnScope N__law_cell_at ["_law_script", "_law_k"] (defScope s__law_cell_at) := ⟨rfl, rfl, rfl, by decide +kernel, rfl, by decide +kernel, by decide +kernel⟩
abbrev s__law_begin : Stmt := topS 21
abbrev N__law_begin : List Str := ["_law_cell", "_law_seed"]
theorem sc__law_begin : FnScope N__law_begin ["_law_cell"] (defScope s__law_begin) := ⟨rfl, rfl, rfl, by decide +kernel, rfl, by decide +kernel, by decide +kernel⟩
abbrev s__law_draw : Stmt := topS 22
abbrev N__law_draw : List Str := ["_law_state", "_law_many", "_law_number", "_law_got"]
theorem sc__law_draw : FnScope N__law_draw ["_law_state", "_law_many"] (defScope s__law_draw) := ⟨rfl, rfl, rfl, by decide +kernel, rfl, by decide +kernel, by decide +kernel⟩
abbrev s__law_order : Stmt := topS 23
abbrev N__law_order : List Str := ["_law_state", "_law_hands", "_law_some", "_law_h", "_law_g", "_law_i", "_law_k"]
theorem sc__law_order : FnScope N__law_order ["_law_state", "_law_hands"] (defScope s__law_order) := ⟨rfl, rfl, rfl, by decide +kernel, rfl, by decide +kernel, by decide +kernel⟩
abbrev s__law_refused : Stmt := topS 24
abbrev N__law_refused : List Str := ["_law_code", "_law_answers", "_law_told", "e", "_law_others"]
theorem sc__law_refused : FnScope N__law_refused ["_law_code", "_law_answers"] (defScope s__law_refused) := ⟨rfl, rfl, rfl, by decide +kernel, rfl, by decide +kernel, by decide +kernel⟩
abbrev s__law_is_number : Stmt := topS 25
abbrev N__law_is_number : List Str := ["_law_told", "_law_due"]
theorem sc__law_is_number : FnScope N__law_is_number ["_law_told", "_law_due"] (defScope s__law_is_number) := ⟨rfl, rfl, rfl, by decide +kernel, rfl, by decide +kernel, by decide +kernel⟩
abbrev s_law : Stmt := topS 26
abbrev N_law : List Str := ["_law_script", "_law_k", "_law_state", "_law_hands", "_law_code", "_law_many", "_law_right", "_law_odd", "_law_turn", "_law_at", "_law_less", "_law_bad", "_law_worse", "_law_answers", "_law_order_here", "_law_j"]
theorem sc_law : FnScope N_law ["_law_script"] (defScope s_law) := ⟨rfl, rfl, rfl, by decide +kernel, rfl, by decide +kernel, by decide +kernel⟩
abbrev s_NoAnswer___init__ : Stmt := inClass (topS 7) 0
abbrev N_NoAnswer___init__ : List Str := ["self", "number"]
theorem sc_NoAnswer___init__ : FnScope N_NoAnswer___init__ ["self", "number"] (defScope s_NoAnswer___init__) := ⟨rfl, rfl, rfl, by decide +kernel, rfl, by decide +kernel, by decide +kernel⟩
structure Tx (w : World) (K : Frag) (mg : Str → Option Value) where
  a_is_below : Addr
  d_is_below : FuncData
  F_is_below : Fun K "is_below" "is_below" s_is_below a_is_below d_is_below
  b_is_below : Binds K d_is_below ["thing", "end"] []
  g_is_below : mg "is_below" = some (.ref a_is_below)
  a_word_of : Addr
  d_word_of : FuncData
  F_word_of : Fun K "word_of" "word_of" s_word_of a_word_of d_word_of
  b_word_of : Binds K d_word_of ["order"] []
  g_word_of : mg "word_of" = some (.ref a_word_of)
  a_number_behind : Addr
  d_number_behind : FuncData
  F_number_behind : Fun K "number_behind" "number_behind" s_number_behind a_number_behind d_number_behind
  b_number_behind : Binds K d_number_behind ["word", "numbers"] []
  g_number_behind : mg "number_behind" = some (.ref a_number_behind)
  a_answer_at : Addr
  d_answer_at : FuncData
  F_answer_at : Fun K "answer_at" "answer_at" s_answer_at a_answer_at d_answer_at
  b_answer_at : Binds K d_answer_at ["answers", "number"] []
  g_answer_at : mg "answer_at" = some (.ref a_answer_at)
  a_worths_of : Addr
  d_worths_of : FuncData
  F_worths_of : Fun K "worths_of" "worths_of" s_worths_of a_worths_of d_worths_of
  b_worths_of : Binds K d_worths_of ["word", "there"] []
  g_worths_of : mg "worths_of" = some (.ref a_worths_of)
  a_Holding_held : Addr
  d_Holding_held : FuncData
  F_Holding_held : Fun K "held" "Holding.held" s_Holding_held a_Holding_held d_Holding_held
  b_Holding_held : Binds K d_Holding_held ["self", "box"] []
  a_Holding_lay : Addr
  d_Holding_lay : FuncData
  F_Holding_lay : Fun K "lay" "Holding.lay" s_Holding_lay a_Holding_lay d_Holding_lay
  b_Holding_lay : Binds K d_Holding_lay ["self", "box", "thing", "worths"] []
  a_done : Addr
  d_done : FuncData
  F_done : Fun K "done" "done" s_done a_done d_done
  b_done : Binds K d_done ["holding", "word", "answers", "told"] []
  g_done : mg "done" = some (.ref a_done)
  a_Holding___init__ : Addr
  d_Holding___init__ : FuncData
  F_Holding___init__ : Fun K "__init__" "Holding.__init__" s_Holding___init__ a_Holding___init__ d_Holding___init__
  b_Holding___init__ : Binds K d_Holding___init__ ["self", "nought"] []
  a_Holding_kept : Addr
  d_Holding_kept : FuncData
  F_Holding_kept : Fun K "kept" "Holding.kept" s_Holding_kept a_Holding_kept d_Holding_kept
  b_Holding_kept : Binds K d_Holding_kept ["self"] []
  a_run_code : Addr
  d_run_code : FuncData
  F_run_code : Fun K "run_code" "run_code" s_run_code a_run_code d_run_code
  b_run_code : Binds K d_run_code ["code", "answers"] []
  g_run_code : mg "run_code" = some (.ref a_run_code)
  a__law_cell_at : Addr
  d__law_cell_at : FuncData
  F__law_cell_at : Fun K "_law_cell_at" "_law_cell_at" s__law_cell_at a__law_cell_at d__law_cell_at
  b__law_cell_at : Binds K d__law_cell_at ["_law_script", "_law_k"] []
  g__law_cell_at : mg "_law_cell_at" = some (.ref a__law_cell_at)
  a__law_begin : Addr
  d__law_begin : FuncData
  F__law_begin : Fun K "_law_begin" "_law_begin" s__law_begin a__law_begin d__law_begin
  b__law_begin : Binds K d__law_begin ["_law_cell"] []
  g__law_begin : mg "_law_begin" = some (.ref a__law_begin)
  a__law_draw : Addr
  d__law_draw : FuncData
  F__law_draw : Fun K "_law_draw" "_law_draw" s__law_draw a__law_draw d__law_draw
  b__law_draw : Binds K d__law_draw ["_law_state", "_law_many"] []
  g__law_draw : mg "_law_draw" = some (.ref a__law_draw)
  a__law_order : Addr
  d__law_order : FuncData
  F__law_order : Fun K "_law_order" "_law_order" s__law_order a__law_order d__law_order
  b__law_order : Binds K d__law_order ["_law_state", "_law_hands"] []
  g__law_order : mg "_law_order" = some (.ref a__law_order)
  a__law_refused : Addr
  d__law_refused : FuncData
  F__law_refused : Fun K "_law_refused" "_law_refused" s__law_refused a__law_refused d__law_refused
  b__law_refused : Binds K d__law_refused ["_law_code", "_law_answers"] []
  g__law_refused : mg "_law_refused" = some (.ref a__law_refused)
  a__law_is_number : Addr
  d__law_is_number : FuncData
  F__law_is_number : Fun K "_law_is_number" "_law_is_number" s__law_is_number a__law_is_number d__law_is_number
  b__law_is_number : Binds K d__law_is_number ["_law_told", "_law_due"] []
  g__law_is_number : mg "_law_is_number" = some (.ref a__law_is_number)
  a_law : Addr
  d_law : FuncData
  F_law : Fun K "law" "law" s_law a_law d_law
  b_law : Binds K d_law ["_law_script"] []
  g_law : mg "law" = some (.ref a_law)
  z_ValueError : mg "ValueError" = none
  z_bool : mg "bool" = none
  z_int : mg "int" = none
  z_isinstance : mg "isinstance" = none
  z_len : mg "len" = none
  z_max : mg "max" = none
  z_min : mg "min" = none
  z_range : mg "range" = none
  z_set : mg "set" = none
  z_sorted : mg "sorted" = none
  z_tuple : mg "tuple" = none
  u_GREATEST : Value
  x_GREATEST : V
  g_GREATEST : mg "GREATEST" = some u_GREATEST
  v_GREATEST : RelV x_GREATEST u_GREATEST
  r_GREATEST : ∀ H, Rp K H x_GREATEST c_GREATEST
  u_REST : Value
  x_REST : V
  g_REST : mg "REST" = some u_REST
  v_REST : RelV x_REST u_REST
  r_REST : ∀ H, Rp K H x_REST c_REST
  C_Holding : Addr
  cl_Holding : clsA K "Holding" = some C_Holding
  ck_Holding : Cls K C_Holding
  g_Holding : mg "Holding" = some (.ref C_Holding)
  mk_Holding : Mk K C_Holding a_Holding___init__
  me_Holding_held : Meth K C_Holding "held" a_Holding_held
  me_Holding_lay : Meth K C_Holding "lay" a_Holding_lay
  me_Holding_kept : Meth K C_Holding "kept" a_Holding_kept
  na_Holding_holds : NoAttr K C_Holding "holds"
  na_Holding_nought : NoAttr K C_Holding "nought"
  kf : KFr K
  C_NoAnswer : Addr
  cl_NoAnswer : clsA K "NoAnswer" = some C_NoAnswer
  g_NoAnswer : mg "NoAnswer" = some (.ref C_NoAnswer)
  C_NoCode : Addr
  cl_NoCode : clsA K "NoCode" = some C_NoCode
  g_NoCode : mg "NoCode" = some (.ref C_NoCode)
  C_NoRow : Addr
  cl_NoRow : clsA K "NoRow" = some C_NoRow
  g_NoRow : mg "NoRow" = some (.ref C_NoRow)
  C_NoText : Addr
  cl_NoText : clsA K "NoText" = some C_NoText
  g_NoText : mg "NoText" = some (.ref C_NoText)
  C_NoTurn : Addr
  cl_NoTurn : clsA K "NoTurn" = some C_NoTurn
  g_NoTurn : mg "NoTurn" = some (.ref C_NoTurn)
  C_TooLong : Addr
  cl_TooLong : clsA K "TooLong" = some C_TooLong
  g_TooLong : mg "TooLong" = some (.ref C_TooLong)
  C_WipeError : Addr
  cl_WipeError : clsA K "WipeError" = some C_WipeError
  g_WipeError : mg "WipeError" = some (.ref C_WipeError)
  ec_NoAnswer : ExcC K C_NoAnswer
  a_NoAnswer___init__ : Addr
  d_NoAnswer___init__ : FuncData
  F_NoAnswer___init__ : Fun K "__init__" "NoAnswer.__init__" s_NoAnswer___init__ a_NoAnswer___init__ d_NoAnswer___init__
  b_NoAnswer___init__ : Binds K d_NoAnswer___init__ ["self", "number"] []
  ox_NoAnswer : OexC K C_NoAnswer
  in_NoAnswer : PySem.W.findIn K (.ref C_NoAnswer) "__init__" = some (some (.ref a_NoAnswer___init__))
  ti_NoAnswer : PySem.W.typeIn K (.ref a_NoAnswer___init__) = some (.type "function")
  no_NoAnswer : PySem.W.findIn K (.ref C_NoAnswer) "number" = some none
  xf_NoAnswer : XfC K C_NoAnswer
  ba_WipeError : BaC K C_WipeError
  h_0 : hitB K (.ref C_WipeError) [("NoAnswer", true)] = true
  ki_0 : PySem.W.kitAny K (.ref C_NoAnswer) [.ref C_NoCode, .ref C_NoRow, .ref C_NoText, .ref C_NoTurn, .ref C_TooLong] = some false
  ki_1 : PySem.W.kitOne K (.ref C_NoAnswer) (.ref C_NoAnswer) = some true
  ki_2 : PySem.W.kitOne K (.ref C_NoAnswer) (.type "ValueError") = some true
section
variable {P : Program} {w : World} {K : Frag} {mg : Str → Option Value} {base : Heap}
theorem ok_NoAnswer___init__ (T : Tx w K mg) : FnOk P w K mg base CX0 1 T.a_NoAnswer___init__ T.d_NoAnswer___init__ ["self", "number"] (spXi K "number") := by
  have sc := sc_NoAnswer___init__
  refine fnXi (m := "no such answer there") T.F_NoAnswer___init__ sc rfl rfl fun cdv A outer s H E => ?_
  exact pss_cons (ps_expr (pe_binit (by rfl) T.g_WipeError T.ba_WipeError (pa_cons (pe_var (i := 0) rfl (by first | exact Or.inl rfl | exact Or.inr (Or.inl rfl) | exact Or.inr (Or.inr rfl))) (pa_cons pe_str pa_nil)))) (pss_one (ps_ost (pe_var (i := 0) rfl (by first | exact Or.inl rfl | exact Or.inr (Or.inl rfl) | exact Or.inr (Or.inr rfl))) (pe_var (i := 1) rfl (by first | exact Or.inl rfl | exact Or.inr (Or.inl rfl) | exact Or.inr (Or.inr rfl)))))
theorem ok_is_below (T : Tx w K mg) : FnOk P w K mg base CX0 1 T.a_is_below T.d_is_below ["thing", "end"] (spF K 2 f_is_below) := by
  have sc := sc_is_below
  refine fn_J T.F_is_below sc rfl rfl (by decide) fun cdv A outer s H E hr => ?_
  exact (jss_one (js_ret (jc_sh (je_and (je_isi (T := "int") (T' := "int") (je_var (i := 0) rfl (by first | exact Or.inl rfl | exact Or.inr (Or.inl rfl) | exact Or.inr (Or.inr rfl))) (by rfl) T.z_isinstance (by rfl) T.z_int (by decide +kernel)) (je_and (je_not (je_isi (T := "bool") (T' := "bool") (je_var (i := 0) rfl (by first | exact Or.inl rfl | exact Or.inr (Or.inl rfl) | exact Or.inr (Or.inr rfl))) (by rfl) T.z_isinstance (by rfl) T.z_bool (by decide +kernel))) (je_one (je_chain op_leA op_ltA ob_ord os_ord je_int (je_var (i := 0) rfl (by first | exact Or.inl rfl | exact Or.inr (Or.inl rfl) | exact Or.inr (Or.inr rfl))) (je_var (i := 1) rfl (by first | exact Or.inl rfl | exact Or.inr (Or.inl rfl) | exact Or.inr (Or.inr rfl))))))))))
theorem ok_word_of (T : Tx w K mg) : FnOk P w K mg base CX0 1 T.a_word_of T.d_word_of ["order"] (spF K 1 f_word_of) := by
  have sc := sc_word_of
  refine fn_J T.F_word_of sc rfl rfl (by decide) fun cdv A outer s H E hr => ?_
  exact (jss_cons (js_if (jt_cmp (op_eqA hr.units) os_eq (je_ix (je_var (i := 0) rfl (by first | exact Or.inl rfl | exact Or.inr (Or.inl rfl) | exact Or.inr (Or.inr rfl))) je_int (fun _ _ => rfl)) je_str (nomark _))
    (jss_one (js_ret (jc_sh (je_tup (ja_c (jc_sh je_str) (ja_c (jc_sh (je_tup (ja_c (jc_sh je_str) (ja_c (jc_sh (je_ix (je_var (i := 0) rfl (by first | exact Or.inl rfl | exact Or.inr (Or.inl rfl) | exact Or.inr (Or.inr rfl))) je_int (fun _ _ => rfl))) ja_nil)))) (ja_c (jc_sh (je_tup (ja_c (jc_sh je_str) (ja_c (jc_sh (je_ix (je_var (i := 0) rfl (by first | exact Or.inl rfl | exact Or.inr (Or.inl rfl) | exact Or.inr (Or.inr rfl))) je_int (fun _ _ => rfl))) ja_nil)))) ja_nil)))))))
    jss_nil)
    (jss_cons (js_if (jt_cmp (op_eqA hr.units) os_eq (je_ix (je_var (i := 0) rfl (by first | exact Or.inl rfl | exact Or.inr (Or.inl rfl) | exact Or.inr (Or.inr rfl))) je_int (fun _ _ => rfl)) je_str (nomark _))
    (jss_one (js_ret (jc_sh (je_tup (ja_c (jc_sh je_str) (ja_c (jc_sh (je_tup (ja_c (jc_sh je_str) (ja_c (jc_sh (je_ix (je_var (i := 0) rfl (by first | exact Or.inl rfl | exact Or.inr (Or.inl rfl) | exact Or.inr (Or.inr rfl))) je_int (fun _ _ => rfl))) ja_nil)))) (ja_c (jc_sh (je_tup (ja_c (jc_sh je_str) (ja_c (jc_sh (je_ix (je_var (i := 0) rfl (by first | exact Or.inl rfl | exact Or.inr (Or.inl rfl) | exact Or.inr (Or.inr rfl))) je_int (fun _ _ => rfl))) ja_nil)))) ja_nil)))))))
    jss_nil)
    (jss_cons (js_if (jt_cmp (op_eqA hr.units) os_eq (je_ix (je_var (i := 0) rfl (by first | exact Or.inl rfl | exact Or.inr (Or.inl rfl) | exact Or.inr (Or.inr rfl))) je_int (fun _ _ => rfl)) je_str (nomark _))
    (jss_one (js_ret (jc_sh (je_tup (ja_c (jc_sh je_str) (ja_c (jc_sh (je_tup (ja_c (jc_sh je_str) (ja_c (jc_sh (je_ix (je_var (i := 0) rfl (by first | exact Or.inl rfl | exact Or.inr (Or.inl rfl) | exact Or.inr (Or.inr rfl))) je_int (fun _ _ => rfl))) ja_nil)))) ja_nil))))))
    jss_nil)
    (jss_cons (js_if (jt_cmp op_inA os_in (je_ix (je_var (i := 0) rfl (by first | exact Or.inl rfl | exact Or.inr (Or.inl rfl) | exact Or.inr (Or.inr rfl))) je_int (fun _ _ => rfl)) (je_tup (ja_c (jc_sh je_str) (ja_c (jc_sh je_str) ja_nil))) (by rfl))
    (jss_one (js_ret (jc_sh (je_tup (ja_c (jc_sh (je_ix (je_var (i := 0) rfl (by first | exact Or.inl rfl | exact Or.inr (Or.inl rfl) | exact Or.inr (Or.inr rfl))) je_int (fun _ _ => rfl))) (ja_c (jc_sh (je_tup (ja_c (jc_sh je_str) (ja_c (jc_sh (je_ix (je_var (i := 0) rfl (by first | exact Or.inl rfl | exact Or.inr (Or.inl rfl) | exact Or.inr (Or.inr rfl))) je_int (fun _ _ => rfl))) ja_nil)))) (ja_c (jc_sh (je_ix (je_var (i := 0) rfl (by first | exact Or.inl rfl | exact Or.inr (Or.inl rfl) | exact Or.inr (Or.inr rfl))) je_int (fun _ _ => rfl))) ja_nil)))))))
    jss_nil)
    (jss_one (js_ret (jc_sh (je_bin op_addA os_add (je_slice (je_var (i := 0) rfl (by first | exact Or.inl rfl | exact Or.inr (Or.inl rfl) | exact Or.inr (Or.inr rfl))) jp_none (jp_some je_int)) (je_callTy call_tuple_of cs_tuple (by rfl) T.z_tuple (by decide +kernel) (ja_c (jc_sh (je_fr (jo_comp (own := [("hand", 1)]) (by decide) rfl sc.nd (ji_any (je_slice (je_var (i := 0) rfl (by first | exact Or.inl rfl | exact Or.inr (Or.inl rfl) | exact Or.inr (Or.inr rfl))) (jp_some je_int) jp_none)) (blkOk_by (N := N_word_of) (sc := defScope s_word_of) (by decide +kernel)) (fun _ _ _ _ _ => (jg_name (i := 1) sc.nd rfl (by first | exact Or.inl rfl | exact Or.inr rfl))) (fun _ _ _ _ _ => jts_nil) (fun _ _ _ _ _ => (je_tup (ja_c (jc_sh je_str) (ja_c (jc_sh (je_var (i := 1) rfl (by first | exact Or.inl rfl | exact Or.inr (Or.inl rfl) | exact Or.inr (Or.inr rfl)))) ja_nil))))))) ja_nil))))))))))
theorem ok_number_behind (T : Tx w K mg) : FnOk P w K mg base CX0 1 T.a_number_behind T.d_number_behind ["word", "numbers"] (spF K 2 f_number_behind) := by
  have sc := sc_number_behind
  refine fn_J T.F_number_behind sc rfl rfl (by decide) fun cdv A outer s H E hr => ?_
  exact (jss_cons (js_if (jt_cmp (op_eqA hr.units) os_eq (je_ix (je_var (i := 0) rfl (by first | exact Or.inl rfl | exact Or.inr (Or.inl rfl) | exact Or.inr (Or.inr rfl))) je_int (fun _ _ => rfl)) je_str (nomark _))
    (jss_one (js_ret (jc_sh (je_ix (je_var (i := 1) rfl (by first | exact Or.inl rfl | exact Or.inr (Or.inl rfl) | exact Or.inr (Or.inr rfl))) je_int (fun _ _ => rfl)))))
    jss_nil)
    (jss_cons (js_if (jt_cmp (op_eqA hr.units) os_eq (je_ix (je_var (i := 0) rfl (by first | exact Or.inl rfl | exact Or.inr (Or.inl rfl) | exact Or.inr (Or.inr rfl))) je_int (fun _ _ => rfl)) je_str (nomark _))
    (jss_one (js_ret (jc_sh (je_bin op_mod os_mod (je_bin op_addA os_add (je_ix (je_var (i := 1) rfl (by first | exact Or.inl rfl | exact Or.inr (Or.inl rfl) | exact Or.inr (Or.inr rfl))) je_int (fun _ _ => rfl)) (je_bin op_mulA os_mul je_int (je_ix (je_var (i := 1) rfl (by first | exact Or.inl rfl | exact Or.inr (Or.inl rfl) | exact Or.inr (Or.inr rfl))) je_int (fun _ _ => rfl)))) (je_glob (by rfl) T.g_REST T.v_REST T.r_REST)))))
    jss_nil)
    (jss_one (js_ret (jc_sh (je_bin op_mod os_mod (je_ix (je_var (i := 1) rfl (by first | exact Or.inl rfl | exact Or.inr (Or.inl rfl) | exact Or.inr (Or.inr rfl))) je_int (fun _ _ => rfl)) je_int))))))
theorem ok_answer_at (T : Tx w K mg) : FnOk P w K mg base (L2.CX P w) 3 T.a_answer_at T.d_answer_at ["answers", "number"] (spX K 2 f_answer_at) := by
  have sc := sc_answer_at
  refine fnX_J T.F_answer_at sc rfl rfl (by decide) fun cdv A outer s H E hr tk pa => ?_
  exact (jss_cons (js_if (PW.pt (jw_or (jt_cmp op_geA os_ord (je_var (i := 1) rfl (by first | exact Or.inl rfl | exact Or.inr (Or.inl rfl) | exact Or.inr (Or.inr rfl))) (je_callB call_lenA cs_len (by rfl) T.z_len (by decide +kernel) (ja_c (jc_sh (je_var (i := 0) rfl (by first | exact Or.inl rfl | exact Or.inr (Or.inl rfl) | exact Or.inr (Or.inr rfl)))) ja_nil)) (nomark _)) (jw_or1 (jt_not (jt_val (je_cell (jc_call (ok_is_below T) rfl (hr.mono (by decide)) (by rfl) T.g_is_below T.F_is_below.kp T.b_is_below (ja_c (jc_sh (je_ix (je_var (i := 0) rfl (by first | exact Or.inl rfl | exact Or.inr (Or.inl rfl) | exact Or.inr (Or.inr rfl))) (je_var (i := 1) rfl (by first | exact Or.inl rfl | exact Or.inr (Or.inl rfl) | exact Or.inr (Or.inr rfl))) (fun _ _ => rfl))) (ja_c (jc_sh (je_bin op_addA os_add (je_glob (by rfl) T.g_GREATEST T.v_GREATEST T.r_GREATEST) je_int)) ja_nil)))))))))
    (jss_one (js_raiseN T.ox_NoAnswer T.in_NoAnswer T.ti_NoAnswer T.no_NoAnswer (ok_NoAnswer___init__ T) (hr.mono (by decide)) T.b_NoAnswer___init__ (by rfl) T.g_NoAnswer T.cl_NoAnswer rfl tk (je_var (i := 1) rfl (by first | exact Or.inl rfl | exact Or.inr (Or.inl rfl) | exact Or.inr (Or.inr rfl)))))
    jss_nil)
    (jss_one (js_ret (jc_sh (je_ix (je_var (i := 0) rfl (by first | exact Or.inl rfl | exact Or.inr (Or.inl rfl) | exact Or.inr (Or.inr rfl))) (je_var (i := 1) rfl (by first | exact Or.inl rfl | exact Or.inr (Or.inl rfl) | exact Or.inr (Or.inr rfl))) (fun _ _ => rfl))))))
theorem ok_worths_of (T : Tx w K mg) : FnOk P w K mg base CX0 1 T.a_worths_of T.d_worths_of ["word", "there"] (spF K 2 f_worths_of) := by
  have sc := sc_worths_of
  refine fn_J T.F_worths_of sc rfl rfl (by decide) fun cdv A outer s H E hr => ?_
  exact (jss_cons (js_set (i := 2) sc.nd rfl (by first | exact Or.inl rfl | exact Or.inr rfl) (jc_lo (jl_new (jo_lst ja_nil))))
    (jss_cons (js_if (jt_cmp (op_neA hr.units) os_ne (je_ix (je_var (i := 0) rfl (by first | exact Or.inl rfl | exact Or.inr (Or.inl rfl) | exact Or.inr (Or.inr rfl))) je_int (fun _ _ => rfl)) je_str (nomark _))
    (jss_one (js_for PassesOwn.never rfl (ji_any (je_var (i := 1) rfl (by first | exact Or.inl rfl | exact Or.inr (Or.inl rfl) | exact Or.inr (Or.inr rfl)))) (jg_tup rfl (jgs_cons (jg_name (i := 3) sc.nd rfl (by first | exact Or.inl rfl | exact Or.inr rfl)) (jgs_cons (jg_name (i := 4) sc.nd rfl (by first | exact Or.inl rfl | exact Or.inr rfl)) jgs_nil)))
    (jss_one (js_ext (jl_var (i := 2) rfl (by first | exact Or.inl rfl | exact Or.inr (Or.inl rfl) | exact Or.inr (Or.inr rfl))) (jc_sh (je_var (i := 4) rfl (by first | exact Or.inl rfl | exact Or.inr (Or.inl rfl) | exact Or.inr (Or.inr rfl)))) (PE0 := (pe_bm PySem.F.plainAttrs_list PySem.F.slot_list_extend PySem.F.type_list_extend mt_extA (jl_var (i := 2) rfl (by first | exact Or.inl rfl | exact Or.inr (Or.inl rfl) | exact Or.inr (Or.inr rfl))) (pa_cons (jc_sh (je_var (i := 4) rfl (by first | exact Or.inl rfl | exact Or.inr (Or.inl rfl) | exact Or.inr (Or.inr rfl)))) pa_nil)))))))
    jss_nil)
    (jss_one (js_ret (jc_sh (je_seal (jl_var (i := 2) rfl (by first | exact Or.inl rfl | exact Or.inr (Or.inl rfl) | exact Or.inr (Or.inr rfl)))))))))
theorem ok_Holding_held (T : Tx w K mg) : FnOk P w K mg base CX0 1 T.a_Holding_held T.d_Holding_held ["self", "box"] (spF K 2 f_Holding_held) := by
  have sc := sc_Holding_held
  refine fn_J T.F_Holding_held sc rfl rfl (by decide) fun cdv A outer s H E hr => ?_
  exact (jss_one (js_ret (jc_sh (je_cell (jc_tget2 T.kf hr.units (jl_cell (jc_fld T.cl_Holding T.ck_Holding T.na_Holding_holds (jl_var (i := 0) rfl (by first | exact Or.inl rfl | exact Or.inr (Or.inl rfl) | exact Or.inr (Or.inr rfl))))) (je_var (i := 1) rfl (by first | exact Or.inl rfl | exact Or.inr (Or.inl rfl) | exact Or.inr (Or.inr rfl))) (jc_sh (je_tup (ja_c (jc_sh (je_cell (jc_fld T.cl_Holding T.ck_Holding T.na_Holding_nought (jl_var (i := 0) rfl (by first | exact Or.inl rfl | exact Or.inr (Or.inl rfl) | exact Or.inr (Or.inr rfl)))))) (ja_c (jc_sh (je_tup ja_nil)) ja_nil)))) ⟨rfl, rfl, rfl, rfl⟩)))))
theorem ok_Holding_lay (T : Tx w K mg) : FnOk P w K mg base CX0 1 T.a_Holding_lay T.d_Holding_lay ["self", "box", "thing", "worths"] (spF K 4 f_Holding_lay) := by
  have sc := sc_Holding_lay
  refine fn_J T.F_Holding_lay sc rfl rfl (by decide) fun cdv A outer s H E hr => ?_
  exact (jss_one (js_tput T.kf hr.units (jl_cell (jc_fld T.cl_Holding T.ck_Holding T.na_Holding_holds (jl_var (i := 0) rfl (by first | exact Or.inl rfl | exact Or.inr (Or.inl rfl) | exact Or.inr (Or.inr rfl))))) (je_var (i := 1) rfl (by first | exact Or.inl rfl | exact Or.inr (Or.inl rfl) | exact Or.inr (Or.inr rfl))) (jc_sh (je_tup (ja_c (jc_sh (je_var (i := 2) rfl (by first | exact Or.inl rfl | exact Or.inr (Or.inl rfl) | exact Or.inr (Or.inr rfl)))) (ja_c (jc_sh (je_callTy call_tuple_of cs_tuple (by rfl) T.z_tuple (by decide +kernel) (ja_c (jc_sh (je_sortSet rfl (by rfl) T.z_sorted (by decide +kernel) (by rfl) T.z_set (by decide +kernel) (jc_sh (je_var (i := 3) rfl (by first | exact Or.inl rfl | exact Or.inr (Or.inl rfl) | exact Or.inr (Or.inr rfl)))))) ja_nil))) ja_nil))))))
theorem ok_done (T : Tx w K mg) : FnOk P w K mg base (L2.CX P w) 4 T.a_done T.d_done ["holding", "word", "answers", "told"] (spX K 4 f_done) := by
  have sc := sc_done
  refine fnX_J T.F_done sc rfl rfl (by decide) fun cdv A outer s H E hr tk pa => ?_
  exact (jss_one (js_if (jt_cmp op_inA os_in (je_ix (je_var (i := 1) rfl (by first | exact Or.inl rfl | exact Or.inr (Or.inl rfl) | exact Or.inr (Or.inr rfl))) je_int (fun _ _ => rfl)) (je_tup (ja_c (jc_sh je_str) (ja_c (jc_sh je_str) ja_nil))) (by rfl))
    (jss_cons (js_set (i := 4) sc.nd rfl (by first | exact Or.inl rfl | exact Or.inr rfl) (jc_sh (je_if (jt_cmp (op_eqA hr.units) os_eq (je_ix (je_var (i := 1) rfl (by first | exact Or.inl rfl | exact Or.inr (Or.inl rfl) | exact Or.inr (Or.inr rfl))) je_int (fun _ _ => rfl)) je_str (nomark _)) (je_tup (ja_c (jc_sh (je_ix (je_var (i := 1) rfl (by first | exact Or.inl rfl | exact Or.inr (Or.inl rfl) | exact Or.inr (Or.inr rfl))) je_int (fun _ _ => rfl))) ja_nil)) (je_tup ja_nil))))
    (jss_cons (js_expr (jc_sh (je_cell (jc_meth T.cl_Holding T.ck_Holding T.me_Holding_lay (ok_Holding_lay T) rfl (hr.mono (by decide)) T.b_Holding_lay (jl_var (i := 0) rfl (by first | exact Or.inl rfl | exact Or.inr (Or.inl rfl) | exact Or.inr (Or.inr rfl))) (ja_c (jc_sh (je_ix (je_var (i := 1) rfl (by first | exact Or.inl rfl | exact Or.inr (Or.inl rfl) | exact Or.inr (Or.inr rfl))) je_int (fun _ _ => rfl))) (ja_c (jc_sh (je_cell (jc_callX tk (ok_answer_at T) rfl (hr.mono (by decide)) (by rfl) T.g_answer_at T.F_answer_at.kp T.b_answer_at (ja_c (jc_sh (je_var (i := 2) rfl (by first | exact Or.inl rfl | exact Or.inr (Or.inl rfl) | exact Or.inr (Or.inr rfl)))) (ja_c (jc_sh (je_cell (jc_dget hr.units (jl_var (i := 3) rfl (by first | exact Or.inl rfl | exact Or.inr (Or.inl rfl) | exact Or.inr (Or.inr rfl))) je_str (fun _ _ => rfl)))) ja_nil))))) (ja_c (jc_sh (je_var (i := 4) rfl (by first | exact Or.inl rfl | exact Or.inr (Or.inl rfl) | exact Or.inr (Or.inr rfl)))) ja_nil)))))))
    (jss_one (js_dput hr.units (jl_var (i := 3) rfl (by first | exact Or.inl rfl | exact Or.inr (Or.inl rfl) | exact Or.inr (Or.inr rfl))) je_str (jc_sh (je_bin op_addA os_add (je_cell (jc_dget hr.units (jl_var (i := 3) rfl (by first | exact Or.inl rfl | exact Or.inr (Or.inl rfl) | exact Or.inr (Or.inr rfl))) je_str (fun _ _ => rfl))) je_int))))))
    (jss_one (js_if (jt_cmp (op_eqA hr.units) os_eq (je_ix (je_var (i := 1) rfl (by first | exact Or.inl rfl | exact Or.inr (Or.inl rfl) | exact Or.inr (Or.inr rfl))) je_int (fun _ _ => rfl)) je_str (nomark _))
    (jss_one (js_expr (jc_sh (je_cell (jc_meth T.cl_Holding T.ck_Holding T.me_Holding_lay (ok_Holding_lay T) rfl (hr.mono (by decide)) T.b_Holding_lay (jl_var (i := 0) rfl (by first | exact Or.inl rfl | exact Or.inr (Or.inl rfl) | exact Or.inr (Or.inr rfl))) (ja_c (jc_sh (je_ix (je_var (i := 1) rfl (by first | exact Or.inl rfl | exact Or.inr (Or.inl rfl) | exact Or.inr (Or.inr rfl))) je_int (fun _ _ => rfl))) (ja_c (jc_sh (je_ix (je_var (i := 1) rfl (by first | exact Or.inl rfl | exact Or.inr (Or.inl rfl) | exact Or.inr (Or.inr rfl))) je_int (fun _ _ => rfl))) (ja_c (jc_sh (je_tup ja_nil)) ja_nil))))))))
    (jss_one (js_if (jt_cmp (op_eqA hr.units) os_eq (je_ix (je_var (i := 1) rfl (by first | exact Or.inl rfl | exact Or.inr (Or.inl rfl) | exact Or.inr (Or.inr rfl))) je_int (fun _ _ => rfl)) je_str (nomark _))
    (jss_one (js_app (jl_cell (jc_dget hr.units (jl_var (i := 3) rfl (by first | exact Or.inl rfl | exact Or.inr (Or.inl rfl) | exact Or.inr (Or.inr rfl))) je_str (fun _ _ => rfl))) (jc_sh (je_ix (je_cell (jc_meth T.cl_Holding T.ck_Holding T.me_Holding_held (ok_Holding_held T) rfl (hr.mono (by decide)) T.b_Holding_held (jl_var (i := 0) rfl (by first | exact Or.inl rfl | exact Or.inr (Or.inl rfl) | exact Or.inr (Or.inr rfl))) (ja_c (jc_sh (je_ix (je_var (i := 1) rfl (by first | exact Or.inl rfl | exact Or.inr (Or.inl rfl) | exact Or.inr (Or.inr rfl))) je_int (fun _ _ => rfl))) ja_nil))) je_int (fun _ _ => rfl))) (PE0 := (pe_bm PySem.F.plainAttrs_list PySem.F.slot_list_append PySem.F.type_list_append mt_append (jl_cell (jc_dget hr.units (jl_var (i := 3) rfl (by first | exact Or.inl rfl | exact Or.inr (Or.inl rfl) | exact Or.inr (Or.inr rfl))) je_str (fun _ _ => rfl))) (pa_cons (jc_sh (je_ix (je_cell (jc_meth T.cl_Holding T.ck_Holding T.me_Holding_held (ok_Holding_held T) rfl (hr.mono (by decide)) T.b_Holding_held (jl_var (i := 0) rfl (by first | exact Or.inl rfl | exact Or.inr (Or.inl rfl) | exact Or.inr (Or.inr rfl))) (ja_c (jc_sh (je_ix (je_var (i := 1) rfl (by first | exact Or.inl rfl | exact Or.inr (Or.inl rfl) | exact Or.inr (Or.inr rfl))) je_int (fun _ _ => rfl))) ja_nil))) je_int (fun _ _ => rfl))) pa_nil)))))
    (jss_one (js_if (jt_cmp (op_eqA hr.units) os_eq (je_ix (je_var (i := 1) rfl (by first | exact Or.inl rfl | exact Or.inr (Or.inl rfl) | exact Or.inr (Or.inr rfl))) je_int (fun _ _ => rfl)) je_str (nomark _))
    (jss_one (js_expr (jc_sh (je_cell (jc_meth T.cl_Holding T.ck_Holding T.me_Holding_lay (ok_Holding_lay T) rfl (hr.mono (by decide)) T.b_Holding_lay (jl_var (i := 0) rfl (by first | exact Or.inl rfl | exact Or.inr (Or.inl rfl) | exact Or.inr (Or.inr rfl))) (ja_c (jc_sh (je_ix (je_var (i := 1) rfl (by first | exact Or.inl rfl | exact Or.inr (Or.inl rfl) | exact Or.inr (Or.inr rfl))) je_int (fun _ _ => rfl))) (ja_c (jc_sh je_int) (ja_c (jc_sh (je_tup ja_nil)) ja_nil))))))))
    (jss_cons (js_lc (mc := (fun m => mSh (mFr m))) (i := 5) (own := [("box", 6)]) (by decide) rfl sc.nd rfl rfl mc_fr (sw_true rfl rfl rfl (by decide +kernel)) (ji_any (je_slice (je_var (i := 1) rfl (by first | exact Or.inl rfl | exact Or.inr (Or.inl rfl) | exact Or.inr (Or.inr rfl))) (jp_some je_int) jp_none)) (blkOk_by (N := N_done) (sc := defScope s_done) (by decide +kernel)) (fun _ _ _ _ _ => (jg_name (i := 6) sc.nd rfl (by first | exact Or.inl rfl | exact Or.inr rfl))) (fun _ _ _ _ _ => jts_nil) (fun _ _ _ _ _ => (je_cell (jc_meth T.cl_Holding T.ck_Holding T.me_Holding_held (ok_Holding_held T) rfl (hr.mono (by decide)) T.b_Holding_held (jl_var (i := 0) rfl (by first | exact Or.inl rfl | exact Or.inr (Or.inl rfl) | exact Or.inr (Or.inr rfl))) (ja_c (jc_sh (je_var (i := 6) rfl (by first | exact Or.inl rfl | exact Or.inr (Or.inl rfl) | exact Or.inr (Or.inr rfl)))) ja_nil)))))
    (jss_one (js_expr (jc_sh (je_cell (jc_meth T.cl_Holding T.ck_Holding T.me_Holding_lay (ok_Holding_lay T) rfl (hr.mono (by decide)) T.b_Holding_lay (jl_var (i := 0) rfl (by first | exact Or.inl rfl | exact Or.inr (Or.inl rfl) | exact Or.inr (Or.inr rfl))) (ja_c (jc_sh (je_ix (je_var (i := 1) rfl (by first | exact Or.inl rfl | exact Or.inr (Or.inl rfl) | exact Or.inr (Or.inr rfl))) je_int (fun _ _ => rfl))) (ja_c (jc_sh (je_cell (jc_call (ok_number_behind T) rfl (hr.mono (by decide)) (by rfl) T.g_number_behind T.F_number_behind.kp T.b_number_behind (ja_c (jc_sh (je_var (i := 1) rfl (by first | exact Or.inl rfl | exact Or.inr (Or.inl rfl) | exact Or.inr (Or.inr rfl)))) (ja_c (jc_sh (je_fr (jo_comp (own := [("number", 7), ("some", 8)]) (by decide) rfl sc.nd (ji_any (je_var (i := 5) rfl (by first | exact Or.inl rfl | exact Or.inr (Or.inl rfl) | exact Or.inr (Or.inr rfl)))) (blkOk_by (N := N_done) (sc := defScope s_done) (by decide +kernel)) (fun _ _ _ _ _ => (jg_tup rfl (jgs_cons (jg_name (i := 7) sc.nd rfl (by first | exact Or.inl rfl | exact Or.inr rfl)) (jgs_cons (jg_name (i := 8) sc.nd rfl (by first | exact Or.inl rfl | exact Or.inr rfl)) jgs_nil)))) (fun _ _ _ _ _ => jts_nil) (fun _ _ _ _ _ => (je_var (i := 7) rfl (by first | exact Or.inl rfl | exact Or.inr (Or.inl rfl) | exact Or.inr (Or.inr rfl))))))) ja_nil))))) (ja_c (jc_sh (je_cell (jc_call (ok_worths_of T) rfl (hr.mono (by decide)) (by rfl) T.g_worths_of T.F_worths_of.kp T.b_worths_of (ja_c (jc_sh (je_var (i := 1) rfl (by first | exact Or.inl rfl | exact Or.inr (Or.inl rfl) | exact Or.inr (Or.inr rfl)))) (ja_c (jc_sh (je_var (i := 5) rfl (by first | exact Or.inl rfl | exact Or.inr (Or.inl rfl) | exact Or.inr (Or.inr rfl)))) ja_nil))))) ja_nil)))))))))))))))))
theorem ok_Holding___init__ (T : Tx w K mg) : FnOk P w K mg base CX0 1 T.a_Holding___init__ T.d_Holding___init__ ["self", "nought"] (spF K 2 f_Holding___init__) := by
  have sc := sc_Holding___init__
  refine fn_J T.F_Holding___init__ sc rfl rfl (by decide) fun cdv A outer s H E hr => ?_
  exact (jss_cons (js_setF T.cl_Holding T.ck_Holding T.na_Holding_nought (jl_var (i := 0) rfl (by first | exact Or.inl rfl | exact Or.inr (Or.inl rfl) | exact Or.inr (Or.inr rfl))) (jc_sh (je_var (i := 1) rfl (by first | exact Or.inl rfl | exact Or.inr (Or.inl rfl) | exact Or.inr (Or.inr rfl)))))
    (jss_one (js_setF T.cl_Holding T.ck_Holding T.na_Holding_holds (jl_var (i := 0) rfl (by first | exact Or.inl rfl | exact Or.inr (Or.inl rfl) | exact Or.inr (Or.inr rfl))) (jc_lo jl_tnew))))
theorem ok_Holding_kept (T : Tx w K mg) : FnOk P w K mg base CX0 1 T.a_Holding_kept T.d_Holding_kept ["self"] (spF K 1 f_Holding_kept) := by
  have sc := sc_Holding_kept
  refine fn_J T.F_Holding_kept sc rfl rfl (by decide) fun cdv A outer s H E hr => ?_
  exact (jss_one (js_ret (jc_sh (je_fr (jo_lock (p := (mL (mFld "Holding" (mLV 0) "holds"))) (jo_comp (own := [("box", 1)]) (by decide) rfl sc.nd (ji_keysT (jl_cell (jc_fld T.cl_Holding T.ck_Holding T.na_Holding_holds (jl_var (i := 0) rfl (by first | exact Or.inl rfl | exact Or.inr (Or.inl rfl) | exact Or.inr (Or.inr rfl)))))) (blkOk_by (N := N_Holding_kept) (sc := defScope s_Holding_kept) (by decide +kernel)) (fun _ _ _ _ _ => (jg_name (i := 1) sc.nd rfl (by first | exact Or.inl rfl | exact Or.inr rfl))) (fun _ _ _ _ _ => (jts_one (jt_cmp (op_neA hr.units) os_ne (je_ix (je_cell (jc_tget T.kf hr.units (jl_cell (jc_fld T.cl_Holding T.ck_Holding T.na_Holding_holds (jl_var (i := 0) rfl (by first | exact Or.inl rfl | exact Or.inr (Or.inl rfl) | exact Or.inr (Or.inr rfl))))) (je_var (i := 1) rfl (by first | exact Or.inl rfl | exact Or.inr (Or.inl rfl) | exact Or.inr (Or.inr rfl))) (fun _ _ => rfl))) je_int (fun _ _ => rfl)) (je_tup ja_nil) (nomark _)))) (fun _ _ _ _ _ => (je_var (i := 1) rfl (by first | exact Or.inl rfl | exact Or.inr (Or.inl rfl) | exact Or.inr (Or.inr rfl))))))))))
theorem ok_run_code (T : Tx w K mg) : FnOk P w K mg base (L2.CX P w) 5 T.a_run_code T.d_run_code ["code", "answers"] (spX K 2 f_run_code) := by
  have sc := sc_run_code
  refine fnX_J T.F_run_code sc rfl rfl (by decide) fun cdv A outer s H E hr tk pa => ?_
  exact (jss_cons (js_set (i := 2) sc.nd rfl (by first | exact Or.inl rfl | exact Or.inr rfl) (jc_lo (jl_make T.cl_Holding T.mk_Holding (ok_Holding___init__ T) rfl (hr.mono (by decide)) (by rfl) T.g_Holding T.b_Holding___init__ (ja_c (jc_sh je_int) ja_nil))))
    (jss_cons (js_set (i := 3) sc.nd rfl (by first | exact Or.inl rfl | exact Or.inr rfl) (jc_lo (jl_disp (.cons je_str (jc_sh je_int) (.cons je_str (jc_lo (jl_new (jo_lst ja_nil))) .nil)) (by simp) (by decide))))
    (jss_cons (js_for pa rfl (ji_any (je_var (i := 0) rfl (by first | exact Or.inl rfl | exact Or.inr (Or.inl rfl) | exact Or.inr (Or.inr rfl)))) (jg_name (i := 4) sc.nd rfl (by first | exact Or.inl rfl | exact Or.inr rfl))
    (jss_one (js_expr (jc_sh (je_cell (jc_callX tk (ok_done T) rfl (hr.mono (by decide)) (by rfl) T.g_done T.F_done.kp T.b_done (ja_c (jc_lo (jl_var (i := 2) rfl (by first | exact Or.inl rfl | exact Or.inr (Or.inl rfl) | exact Or.inr (Or.inr rfl)))) (ja_c (jc_sh (je_cell (jc_call (ok_word_of T) rfl (hr.mono (by decide)) (by rfl) T.g_word_of T.F_word_of.kp T.b_word_of (ja_c (jc_sh (je_var (i := 4) rfl (by first | exact Or.inl rfl | exact Or.inr (Or.inl rfl) | exact Or.inr (Or.inr rfl)))) ja_nil)))) (ja_c (jc_sh (je_var (i := 1) rfl (by first | exact Or.inl rfl | exact Or.inr (Or.inl rfl) | exact Or.inr (Or.inr rfl)))) (ja_c (jc_lo (jl_var (i := 3) rfl (by first | exact Or.inl rfl | exact Or.inr (Or.inl rfl) | exact Or.inr (Or.inr rfl)))) ja_nil))))))))))
    (jss_cons (js_lc (mc := (fun m => mSh (mFr m))) (i := 5) (own := [("box", 6)]) (by decide) rfl sc.nd rfl rfl mc_fr (sw_true rfl rfl rfl (by decide +kernel)) (ji_any (je_sortL hr.units (by rfl) T.z_sorted (by decide +kernel) (je_cell (jc_meth0 T.cl_Holding T.ck_Holding T.me_Holding_kept (ok_Holding_kept T) (hr.mono (by decide)) T.b_Holding_kept (jl_var (i := 2) rfl (by first | exact Or.inl rfl | exact Or.inr (Or.inl rfl) | exact Or.inr (Or.inr rfl))))))) (blkOk_by (N := N_run_code) (sc := defScope s_run_code) (by decide +kernel)) (fun _ _ _ _ _ => (jg_name (i := 6) sc.nd rfl (by first | exact Or.inl rfl | exact Or.inr rfl))) (fun _ _ _ _ _ => jts_nil) (fun _ _ _ _ _ => (je_bin op_addA os_add (je_var (i := 6) rfl (by first | exact Or.inl rfl | exact Or.inr (Or.inl rfl) | exact Or.inr (Or.inr rfl))) (je_tup (ja_c (jc_sh (je_ix (je_cell (jc_meth T.cl_Holding T.ck_Holding T.me_Holding_held (ok_Holding_held T) rfl (hr.mono (by decide)) T.b_Holding_held (jl_var (i := 2) rfl (by first | exact Or.inl rfl | exact Or.inr (Or.inl rfl) | exact Or.inr (Or.inr rfl))) (ja_c (jc_sh (je_var (i := 6) rfl (by first | exact Or.inl rfl | exact Or.inr (Or.inl rfl) | exact Or.inr (Or.inr rfl)))) ja_nil))) je_int (fun _ _ => rfl))) ja_nil)))))
    (jss_one (js_ret (jc_sh (je_tup (ja_c (jc_sh (je_tupOf (by rfl) T.z_tuple (by decide +kernel) (jc_lo (jl_cell (jc_dget hr.units (jl_var (i := 3) rfl (by first | exact Or.inl rfl | exact Or.inr (Or.inl rfl) | exact Or.inr (Or.inr rfl))) je_str (fun _ _ => rfl)))))) (ja_c (jc_sh (je_callTy call_tuple_of cs_tuple (by rfl) T.z_tuple (by decide +kernel) (ja_c (jc_sh (je_var (i := 5) rfl (by first | exact Or.inl rfl | exact Or.inr (Or.inl rfl) | exact Or.inr (Or.inr rfl)))) ja_nil))) ja_nil))))))))))
theorem ok__law_cell_at (T : Tx w K mg) : FnOk P w K mg base CX0 1 T.a__law_cell_at T.d__law_cell_at ["_law_script", "_law_k"] (spF K 2 f__law_cell_at) := by
  have sc := sc__law_cell_at
  refine fn_J T.F__law_cell_at sc rfl rfl (by decide) fun cdv A outer s H E hr => ?_
  exact (jss_cons (js_if (jt_cmp op_ltA os_ord (je_var (i := 1) rfl (by first | exact Or.inl rfl | exact Or.inr (Or.inl rfl) | exact Or.inr (Or.inr rfl))) (je_callB call_lenA cs_len (by rfl) T.z_len (by decide +kernel) (ja_c (jc_sh (je_var (i := 0) rfl (by first | exact Or.inl rfl | exact Or.inr (Or.inl rfl) | exact Or.inr (Or.inr rfl)))) ja_nil)) (nomark _))
    (jss_one (js_ret (jc_sh (je_ix (je_var (i := 0) rfl (by first | exact Or.inl rfl | exact Or.inr (Or.inl rfl) | exact Or.inr (Or.inr rfl))) (je_var (i := 1) rfl (by first | exact Or.inl rfl | exact Or.inr (Or.inl rfl) | exact Or.inr (Or.inr rfl))) (fun _ _ => rfl)))))
    jss_nil)
    (jss_one (js_ret (jc_sh je_int))))
theorem ok__law_begin (T : Tx w K mg) : FnOk P w K mg base CX0 1 T.a__law_begin T.d__law_begin ["_law_cell"] (spF K 1 f__law_begin) := by
  have sc := sc__law_begin
  refine fn_J T.F__law_begin sc rfl rfl (by decide) fun cdv A outer s H E hr => ?_
  exact (jss_cons (js_set (i := 1) sc.nd rfl (by first | exact Or.inl rfl | exact Or.inr rfl) (jc_sh (je_bin op_addA os_add (je_bin op_addA os_add (je_bin op_mod os_mod (je_var (i := 0) rfl (by first | exact Or.inl rfl | exact Or.inr (Or.inl rfl) | exact Or.inr (Or.inr rfl))) je_int) (je_bin op_mod os_mod (je_bin op_fdivW os_div (je_var (i := 0) rfl (by first | exact Or.inl rfl | exact Or.inr (Or.inl rfl) | exact Or.inr (Or.inr rfl))) je_int) je_int)) je_int)))
    (jss_cons (js_if (jt_cmp op_ltA os_ord (je_var (i := 0) rfl (by first | exact Or.inl rfl | exact Or.inr (Or.inl rfl) | exact Or.inr (Or.inr rfl))) (je_bin op_pow os_pow je_int je_int) (nomark _))
    (jss_one (js_ret (jc_lo (jl_new (jo_lst (ja_c (jc_sh je_int) (ja_c (jc_sh (je_var (i := 1) rfl (by first | exact Or.inl rfl | exact Or.inr (Or.inl rfl) | exact Or.inr (Or.inr rfl)))) ja_nil)))))))
    jss_nil)
    (jss_one (js_ret (jc_lo (jl_new (jo_lst (ja_c (jc_sh (je_var (i := 0) rfl (by first | exact Or.inl rfl | exact Or.inr (Or.inl rfl) | exact Or.inr (Or.inr rfl)))) (ja_c (jc_sh (je_var (i := 1) rfl (by first | exact Or.inl rfl | exact Or.inr (Or.inl rfl) | exact Or.inr (Or.inr rfl)))) ja_nil)))))))))
theorem ok__law_draw (T : Tx w K mg) : FnOk P w K mg base CX0 1 T.a__law_draw T.d__law_draw ["_law_state", "_law_many"] (spF K 2 f__law_draw) := by
  have sc := sc__law_draw
  refine fn_J T.F__law_draw sc rfl rfl (by decide) fun cdv A outer s H E hr => ?_
  exact (jss_cons (js_if (jt_cmp op_gtA os_ord (je_cell (jc_ix (jc_lo (jl_var (i := 0) rfl (by first | exact Or.inl rfl | exact Or.inr (Or.inl rfl) | exact Or.inr (Or.inr rfl)))) je_int (fun _ _ => rfl))) je_int (nomark _))
    (jss_cons (js_set (i := 3) sc.nd rfl (by first | exact Or.inl rfl | exact Or.inr rfl) (jc_sh (je_bin op_mod os_mod (je_cell (jc_ix (jc_lo (jl_var (i := 0) rfl (by first | exact Or.inl rfl | exact Or.inr (Or.inl rfl) | exact Or.inr (Or.inr rfl)))) je_int (fun _ _ => rfl))) (je_var (i := 1) rfl (by first | exact Or.inl rfl | exact Or.inr (Or.inl rfl) | exact Or.inr (Or.inr rfl))))))
    (jss_cons (js_setIx (jl_var (i := 0) rfl (by first | exact Or.inl rfl | exact Or.inr (Or.inl rfl) | exact Or.inr (Or.inr rfl))) je_int (jc_sh (je_bin op_fdivW os_div (je_cell (jc_ix (jc_lo (jl_var (i := 0) rfl (by first | exact Or.inl rfl | exact Or.inr (Or.inl rfl) | exact Or.inr (Or.inr rfl)))) je_int (fun _ _ => rfl))) (je_var (i := 1) rfl (by first | exact Or.inl rfl | exact Or.inr (Or.inl rfl) | exact Or.inr (Or.inr rfl))))))
    (jss_one (js_ret (jc_sh (je_var (i := 3) rfl (by first | exact Or.inl rfl | exact Or.inr (Or.inl rfl) | exact Or.inr (Or.inr rfl))))))))
    jss_nil)
    (jss_cons (js_set (i := 2) sc.nd rfl (by first | exact Or.inl rfl | exact Or.inr rfl) (jc_sh (je_bin op_mod os_mod (je_bin op_addA os_add (je_bin op_mulA os_mul (je_cell (jc_ix (jc_lo (jl_var (i := 0) rfl (by first | exact Or.inl rfl | exact Or.inr (Or.inl rfl) | exact Or.inr (Or.inr rfl)))) je_int (fun _ _ => rfl))) je_int) je_int) je_int)))
    (jss_cons (js_setIx (jl_var (i := 0) rfl (by first | exact Or.inl rfl | exact Or.inr (Or.inl rfl) | exact Or.inr (Or.inr rfl))) je_int (jc_sh (je_bin op_mod os_mod (je_bin op_addA os_add (je_bin op_mulA os_mul (je_var (i := 2) rfl (by first | exact Or.inl rfl | exact Or.inr (Or.inl rfl) | exact Or.inr (Or.inr rfl))) je_int) je_int) je_int)))
    (jss_one (js_ret (jc_sh (je_bin op_mod os_mod (je_bin op_fdivW os_div (je_bin op_mod os_mod (je_bin op_addA os_add (je_bin op_mulA os_mul (je_cell (jc_ix (jc_lo (jl_var (i := 0) rfl (by first | exact Or.inl rfl | exact Or.inr (Or.inl rfl) | exact Or.inr (Or.inr rfl)))) je_int (fun _ _ => rfl))) je_int) je_int) je_int) je_int) (je_var (i := 1) rfl (by first | exact Or.inl rfl | exact Or.inr (Or.inl rfl) | exact Or.inr (Or.inr rfl))))))))))
theorem ok__law_order (T : Tx w K mg) : FnOk P w K mg base CX0 2 T.a__law_order T.d__law_order ["_law_state", "_law_hands"] (spF K 2 f__law_order) := by
  have sc := sc__law_order
  refine fn_J T.F__law_order sc rfl rfl (by decide) fun cdv A outer s H E hr => ?_
  exact (jss_cons (js_asg (jc_sh (je_fr (jo_comp (own := [("_law_k", 6)]) (by decide) rfl sc.nd (ji_range1 (by rfl) T.z_range je_int) (blkOk_by (N := N__law_order) (sc := defScope s__law_order) (by decide +kernel)) (fun _ _ _ _ _ => (jg_name (i := 6) sc.nd rfl (by first | exact Or.inl rfl | exact Or.inr rfl))) (fun _ _ _ _ _ => jts_nil) (fun _ _ _ _ _ => (je_cell (jc_call (ok__law_draw T) rfl (hr.mono (by decide)) (by rfl) T.g__law_draw T.F__law_draw.kp T.b__law_draw (ja_c (jc_lo (jl_var (i := 0) rfl (by first | exact Or.inl rfl | exact Or.inr (Or.inl rfl) | exact Or.inr (Or.inr rfl)))) (ja_c (jc_sh (je_var (i := 1) rfl (by first | exact Or.inl rfl | exact Or.inr (Or.inl rfl) | exact Or.inr (Or.inr rfl)))) ja_nil)))))))) (jg_lst rfl (jgs_cons (jg_name (i := 3) sc.nd rfl (by first | exact Or.inl rfl | exact Or.inr rfl)) (jgs_cons (jg_name (i := 4) sc.nd rfl (by first | exact Or.inl rfl | exact Or.inr rfl)) (jgs_cons (jg_name (i := 5) sc.nd rfl (by first | exact Or.inl rfl | exact Or.inr rfl)) jgs_nil)))))
    (jss_cons (js_set (i := 2) sc.nd rfl (by first | exact Or.inl rfl | exact Or.inr rfl) (jc_sh (je_lst (ja_c (jc_sh (je_tup (ja_c (jc_sh je_str) (ja_c (jc_sh (je_var (i := 3) rfl (by first | exact Or.inl rfl | exact Or.inr (Or.inl rfl) | exact Or.inr (Or.inr rfl)))) (ja_c (jc_sh je_str) ja_nil))))) (ja_c (jc_sh (je_tup (ja_c (jc_sh je_str) (ja_c (jc_sh (je_var (i := 3) rfl (by first | exact Or.inl rfl | exact Or.inr (Or.inl rfl) | exact Or.inr (Or.inr rfl)))) ja_nil)))) (ja_c (jc_sh (je_tup (ja_c (jc_sh je_str) (ja_c (jc_sh (je_var (i := 3) rfl (by first | exact Or.inl rfl | exact Or.inr (Or.inl rfl) | exact Or.inr (Or.inr rfl)))) ja_nil)))) (ja_c (jc_sh (je_tup (ja_c (jc_sh je_str) (ja_c (jc_sh (je_var (i := 3) rfl (by first | exact Or.inl rfl | exact Or.inr (Or.inl rfl) | exact Or.inr (Or.inr rfl)))) (ja_c (jc_sh je_str) ja_nil))))) (ja_c (jc_sh (je_tup (ja_c (jc_sh je_str) (ja_c (jc_sh (je_var (i := 3) rfl (by first | exact Or.inl rfl | exact Or.inr (Or.inl rfl) | exact Or.inr (Or.inr rfl)))) (ja_c (jc_sh je_int) ja_nil))))) (ja_c (jc_sh (je_tup (ja_c (jc_sh je_str) (ja_c (jc_sh (je_var (i := 3) rfl (by first | exact Or.inl rfl | exact Or.inr (Or.inl rfl) | exact Or.inr (Or.inr rfl)))) (ja_c (jc_sh (je_var (i := 4) rfl (by first | exact Or.inl rfl | exact Or.inr (Or.inl rfl) | exact Or.inr (Or.inr rfl)))) ja_nil))))) ja_nil)))))))))
    (jss_cons (js_set (i := 2) sc.nd rfl (by first | exact Or.inl rfl | exact Or.inr rfl) (jc_sh (je_bin op_addA os_add (je_var (i := 2) rfl (by first | exact Or.inl rfl | exact Or.inr (Or.inl rfl) | exact Or.inr (Or.inr rfl))) (je_lst (ja_c (jc_sh (je_tup (ja_c (jc_sh je_str) (ja_c (jc_sh (je_var (i := 3) rfl (by first | exact Or.inl rfl | exact Or.inr (Or.inl rfl) | exact Or.inr (Or.inr rfl)))) (ja_c (jc_sh (je_var (i := 4) rfl (by first | exact Or.inl rfl | exact Or.inr (Or.inl rfl) | exact Or.inr (Or.inr rfl)))) (ja_c (jc_sh (je_var (i := 5) rfl (by first | exact Or.inl rfl | exact Or.inr (Or.inl rfl) | exact Or.inr (Or.inr rfl)))) ja_nil)))))) (ja_c (jc_sh (je_tup (ja_c (jc_sh je_str) (ja_c (jc_sh (je_var (i := 3) rfl (by first | exact Or.inl rfl | exact Or.inr (Or.inl rfl) | exact Or.inr (Or.inr rfl)))) ja_nil)))) (ja_c (jc_sh (je_tup (ja_c (jc_sh je_str) (ja_c (jc_sh (je_var (i := 3) rfl (by first | exact Or.inl rfl | exact Or.inr (Or.inl rfl) | exact Or.inr (Or.inr rfl)))) ja_nil)))) (ja_c (jc_sh (je_tup (ja_c (jc_sh je_str) (ja_c (jc_sh (je_cell (jc_call (ok__law_draw T) rfl (hr.mono (by decide)) (by rfl) T.g__law_draw T.F__law_draw.kp T.b__law_draw (ja_c (jc_lo (jl_var (i := 0) rfl (by first | exact Or.inl rfl | exact Or.inr (Or.inl rfl) | exact Or.inr (Or.inr rfl)))) (ja_c (jc_sh je_int) ja_nil))))) (ja_c (jc_sh (je_var (i := 3) rfl (by first | exact Or.inl rfl | exact Or.inr (Or.inl rfl) | exact Or.inr (Or.inr rfl)))) ja_nil))))) (ja_c (jc_sh (je_tup (ja_c (jc_sh je_str) (ja_c (jc_sh (je_var (i := 3) rfl (by first | exact Or.inl rfl | exact Or.inr (Or.inl rfl) | exact Or.inr (Or.inr rfl)))) (ja_c (jc_sh (je_var (i := 4) rfl (by first | exact Or.inl rfl | exact Or.inr (Or.inl rfl) | exact Or.inr (Or.inr rfl)))) ja_nil))))) ja_nil)))))))))
    (jss_one (js_ret (jc_sh (je_ix (je_var (i := 2) rfl (by first | exact Or.inl rfl | exact Or.inr (Or.inl rfl) | exact Or.inr (Or.inr rfl))) (je_cell (jc_call (ok__law_draw T) rfl (hr.mono (by decide)) (by rfl) T.g__law_draw T.F__law_draw.kp T.b__law_draw (ja_c (jc_lo (jl_var (i := 0) rfl (by first | exact Or.inl rfl | exact Or.inr (Or.inl rfl) | exact Or.inr (Or.inr rfl)))) (ja_c (jc_sh (je_callB call_lenA cs_len (by rfl) T.z_len (by decide +kernel) (ja_c (jc_sh (je_var (i := 2) rfl (by first | exact Or.inl rfl | exact Or.inr (Or.inl rfl) | exact Or.inr (Or.inr rfl)))) ja_nil))) ja_nil)))) (fun _ _ => rfl))))))))
theorem ok__law_refused (T : Tx w K mg) : FnOk P w K mg base CX0 6 T.a__law_refused T.d__law_refused ["_law_code", "_law_answers"] (spF K 2 f__law_refused) := by
  have sc := sc__law_refused
  refine fn_J T.F__law_refused sc rfl rfl (by decide) fun cdv A outer s H E hr => ?_
  exact (jss_cons (js_set (i := 2) sc.nd rfl (by first | exact Or.inl rfl | exact Or.inr rfl) (jc_sh je_non))
    (jss_cons (js_tryAs (i := 3) rfl rfl sc.nd rfl rfl ⟨by rfl, by decide, .inl T.g_WipeError⟩ takesNo (hit_ok T.h_0) (fun W pn xe tk pa => (jss_one (js_expr (jc_sh (je_cell (jc_callX tk (ok_run_code T) rfl (hr.mono (by decide)) (by rfl) T.g_run_code T.F_run_code.kp T.b_run_code (ja_c (jc_sh (je_var (i := 0) rfl (by first | exact Or.inl rfl | exact Or.inr (Or.inl rfl) | exact Or.inr (Or.inr rfl)))) (ja_c (jc_sh (je_var (i := 1) rfl (by first | exact Or.inl rfl | exact Or.inr (Or.inl rfl) | exact Or.inr (Or.inr rfl)))) ja_nil))))))))
    (fun y C a oe d pn hC hd hz hf => (suite_if (m1 := fun num => (mSeq (mSet 2 (mSh (mC (PyData.str "other"))))
  (mSeq (mSet 4 (mSh (mIsB (some false))))
  (mIfS (mAndT (mTest (mIsB (some true))) (mAndT (mTest (mIsB (some true))) (mNotT (mTest (mVar 4))))) (mSet 2 (mSh (mNum num))) mNx)))) (m2 := msBad) T.cl_NoAnswer hC hz (fun hz => (jks_cons (jks_set (j := 2) (by decide) sc.nd rfl (by first | exact Or.inl rfl | exact Or.inr rfl) (jkc_free (jc_sh je_str)))
    (jks_cons (jks_set (j := 4) (by decide) sc.nd rfl (by first | exact Or.inl rfl | exact Or.inr rfl) (jk_sh (jk_isET (o := some false) T.ec_NoAnswer hz hf (by rfl) T.z_isinstance (i := 3) rfl (by first | exact Or.inl rfl | exact Or.inr (Or.inl rfl) | exact Or.inr (Or.inr rfl)) (pa_cons (pe_glob (v := .ref T.C_NoCode) (by rfl) T.g_NoCode rfl) (pa_cons (pe_glob (v := .ref T.C_NoRow) (by rfl) T.g_NoRow rfl) (pa_cons (pe_glob (v := .ref T.C_NoText) (by rfl) T.g_NoText rfl) (pa_cons (pe_glob (v := .ref T.C_NoTurn) (by rfl) T.g_NoTurn rfl) (pa_cons (pe_glob (v := .ref T.C_TooLong) (by rfl) T.g_TooLong rfl) pa_nil))))) (fun _ _ _ h => h) (by show 5 ≤ sizeLine; rw [sizeLine_eq]; omega) (.cons (.own _) (.cons (.own _) (.cons (.own _) (.cons (.own _) (.cons (.own _) .nil))))) (fun b h => by cases h; exact T.ki_0))))
    (jks_one (jks_if (PW.pt (jkw_and (jkt_val (jk_isE (o := some true) T.ec_NoAnswer hz hf (by rfl) T.z_isinstance (i := 3) rfl (by first | exact Or.inl rfl | exact Or.inr (Or.inl rfl) | exact Or.inr (Or.inr rfl)) (pe_glob (v := .ref T.C_NoAnswer) (by rfl) T.g_NoAnswer rfl) (.own _) (fun b h => by cases h; exact T.ki_1))) (jkw_and (jkt_val (jk_isE (o := some true) T.ec_NoAnswer hz hf (by rfl) T.z_isinstance (i := 3) rfl (by first | exact Or.inl rfl | exact Or.inr (Or.inl rfl) | exact Or.inr (Or.inr rfl)) (pe_bltn (v := .ty "ValueError") (by rfl) T.z_ValueError rfl rfl) (.ty _) (fun b h => by cases h; exact T.ki_2))) (jkw_and1 (jkt_free (jt_not (jt_val (je_var (i := 4) rfl (by first | exact Or.inl rfl | exact Or.inr (Or.inl rfl) | exact Or.inr (Or.inr rfl))))))))))
    (jks_one (jks_set (j := 2) (by decide) sc.nd rfl (by first | exact Or.inl rfl | exact Or.inr rfl) (jk_sh (jk_num T.xf_NoAnswer T.no_NoAnswer hz hf (i := 3) rfl (by first | exact Or.inl rfl | exact Or.inr (Or.inl rfl) | exact Or.inr (Or.inr rfl))))))
    jks_nil)))))
    suite_bad)))
    (jss_one (js_ret (jc_sh (je_var (i := 2) rfl (by first | exact Or.inl rfl | exact Or.inr (Or.inl rfl) | exact Or.inr (Or.inr rfl))))))))
theorem ok__law_is_number (T : Tx w K mg) : FnOk P w K mg base CX0 1 T.a__law_is_number T.d__law_is_number ["_law_told", "_law_due"] (spF K 2 f__law_is_number) := by
  have sc := sc__law_is_number
  refine fn_J T.F__law_is_number sc rfl rfl (by decide) fun cdv A outer s H E hr => ?_
  exact (jss_one (js_ret (jc_sh (je_and (je_isi (T := "int") (T' := "int") (je_var (i := 0) rfl (by first | exact Or.inl rfl | exact Or.inr (Or.inl rfl) | exact Or.inr (Or.inr rfl))) (by rfl) T.z_isinstance (by rfl) T.z_int (by decide +kernel)) (je_and (je_not (je_isi (T := "bool") (T' := "bool") (je_var (i := 0) rfl (by first | exact Or.inl rfl | exact Or.inr (Or.inl rfl) | exact Or.inr (Or.inr rfl))) (by rfl) T.z_isinstance (by rfl) T.z_bool (by decide +kernel))) (je_one (je_cmp (op_eqA hr.units) os_eq (je_var (i := 0) rfl (by first | exact Or.inl rfl | exact Or.inr (Or.inl rfl) | exact Or.inr (Or.inr rfl))) (je_var (i := 1) rfl (by first | exact Or.inl rfl | exact Or.inr (Or.inl rfl) | exact Or.inr (Or.inr rfl))) (nomark _))))))))
theorem ok_law (T : Tx w K mg) : FnOk P w K mg base CX0 7 T.a_law T.d_law ["_law_script"] (spF K 1 f_law) := by
  have sc := sc_law
  refine fn_J T.F_law sc rfl rfl (by decide) fun cdv A outer s H E hr => ?_
  exact (jss_cons (js_for PassesOwn.never rfl (ji_range1 (by rfl) T.z_range (je_callB (call_max2 rfl) (cs_II (f := fun i j => if j > i then j else i)) (by rfl) T.z_max (by decide +kernel) (ja_c (jc_sh je_int) (ja_c (jc_sh (je_callB (call_min2 rfl) (cs_II (f := fun i j => if j < i then j else i)) (by rfl) T.z_min (by decide +kernel) (ja_c (jc_sh je_int) (ja_c (jc_sh (je_callB call_lenA cs_len (by rfl) T.z_len (by decide +kernel) (ja_c (jc_sh (je_var (i := 0) rfl (by first | exact Or.inl rfl | exact Or.inr (Or.inl rfl) | exact Or.inr (Or.inr rfl)))) ja_nil))) ja_nil)))) ja_nil)))) (jg_name (i := 1) sc.nd rfl (by first | exact Or.inl rfl | exact Or.inr rfl))
    (jss_cons (js_set (i := 2) sc.nd rfl (by first | exact Or.inl rfl | exact Or.inr rfl) (jc_lo (jl_cell (jc_call (ok__law_begin T) rfl (hr.mono (by decide)) (by rfl) T.g__law_begin T.F__law_begin.kp T.b__law_begin (ja_c (jc_sh (je_cell (jc_call (ok__law_cell_at T) rfl (hr.mono (by decide)) (by rfl) T.g__law_cell_at T.F__law_cell_at.kp T.b__law_cell_at (ja_c (jc_sh (je_var (i := 0) rfl (by first | exact Or.inl rfl | exact Or.inr (Or.inl rfl) | exact Or.inr (Or.inr rfl)))) (ja_c (jc_sh (je_var (i := 1) rfl (by first | exact Or.inl rfl | exact Or.inr (Or.inl rfl) | exact Or.inr (Or.inr rfl)))) ja_nil))))) ja_nil)))))
    (jss_cons (js_set (i := 3) sc.nd rfl (by first | exact Or.inl rfl | exact Or.inr rfl) (jc_sh (je_bin op_addA os_add je_int (je_cell (jc_call (ok__law_draw T) rfl (hr.mono (by decide)) (by rfl) T.g__law_draw T.F__law_draw.kp T.b__law_draw (ja_c (jc_lo (jl_var (i := 2) rfl (by first | exact Or.inl rfl | exact Or.inr (Or.inl rfl) | exact Or.inr (Or.inr rfl)))) (ja_c (jc_sh je_int) ja_nil)))))))
    (jss_cons (js_set (i := 4) sc.nd rfl (by first | exact Or.inl rfl | exact Or.inr rfl) (jc_sh (je_bin op_addA os_add (je_callTy call_tuple_of cs_tuple (by rfl) T.z_tuple (by decide +kernel) (ja_c (jc_sh (je_fr (jo_comp (own := [("_law_j", 15)]) (by decide) rfl sc.nd (ji_range1 (by rfl) T.z_range (je_cell (jc_call (ok__law_draw T) rfl (hr.mono (by decide)) (by rfl) T.g__law_draw T.F__law_draw.kp T.b__law_draw (ja_c (jc_lo (jl_var (i := 2) rfl (by first | exact Or.inl rfl | exact Or.inr (Or.inl rfl) | exact Or.inr (Or.inr rfl)))) (ja_c (jc_sh je_int) ja_nil))))) (blkOk_by (N := N_law) (sc := defScope s_law) (by decide +kernel)) (fun _ _ _ _ _ => (jg_name (i := 15) sc.nd rfl (by first | exact Or.inl rfl | exact Or.inr rfl))) (fun _ _ _ _ _ => jts_nil) (fun _ _ _ _ _ => (je_cell (jc_call (ok__law_order T) rfl (hr.mono (by decide)) (by rfl) T.g__law_order T.F__law_order.kp T.b__law_order (ja_c (jc_lo (jl_var (i := 2) rfl (by first | exact Or.inl rfl | exact Or.inr (Or.inl rfl) | exact Or.inr (Or.inr rfl)))) (ja_c (jc_sh (je_var (i := 3) rfl (by first | exact Or.inl rfl | exact Or.inr (Or.inl rfl) | exact Or.inr (Or.inr rfl)))) ja_nil)))))))) ja_nil)) (je_tup (ja_c (jc_sh (je_tup (ja_c (jc_sh je_str) (ja_c (jc_sh je_int) ja_nil)))) (ja_c (jc_sh (je_tup (ja_c (jc_sh je_str) (ja_c (jc_sh je_int) ja_nil)))) ja_nil))))))
    (jss_cons (js_set (i := 5) sc.nd rfl (by first | exact Or.inl rfl | exact Or.inr rfl) (jc_sh (je_callB call_lenA cs_len (by rfl) T.z_len (by decide +kernel) (ja_c (jc_sh (je_fr (jo_comp (own := [("_law_order_here", 14)]) (by decide) rfl sc.nd (ji_any (je_var (i := 4) rfl (by first | exact Or.inl rfl | exact Or.inr (Or.inl rfl) | exact Or.inr (Or.inr rfl)))) (blkOk_by (N := N_law) (sc := defScope s_law) (by decide +kernel)) (fun _ _ _ _ _ => (jg_name (i := 14) sc.nd rfl (by first | exact Or.inl rfl | exact Or.inr rfl))) (fun _ _ _ _ _ => (jts_one (jt_cmp op_inA os_in (je_ix (je_var (i := 14) rfl (by first | exact Or.inl rfl | exact Or.inr (Or.inl rfl) | exact Or.inr (Or.inr rfl))) je_int (fun _ _ => rfl)) (je_tup (ja_c (jc_sh je_str) (ja_c (jc_sh je_str) ja_nil))) (by rfl)))) (fun _ _ _ _ _ => (je_var (i := 14) rfl (by first | exact Or.inl rfl | exact Or.inr (Or.inl rfl) | exact Or.inr (Or.inr rfl))))))) ja_nil))))
    (jss_cons (js_set (i := 6) sc.nd rfl (by first | exact Or.inl rfl | exact Or.inr rfl) (jc_sh (je_callTy call_tuple_of cs_tuple (by rfl) T.z_tuple (by decide +kernel) (ja_c (jc_sh (je_fr (jo_comp (own := [("_law_j", 15)]) (by decide) rfl sc.nd (ji_range1 (by rfl) T.z_range (je_var (i := 5) rfl (by first | exact Or.inl rfl | exact Or.inr (Or.inl rfl) | exact Or.inr (Or.inr rfl)))) (blkOk_by (N := N_law) (sc := defScope s_law) (by decide +kernel)) (fun _ _ _ _ _ => (jg_name (i := 15) sc.nd rfl (by first | exact Or.inl rfl | exact Or.inr rfl))) (fun _ _ _ _ _ => jts_nil) (fun _ _ _ _ _ => (je_cell (jc_call (ok__law_draw T) rfl (hr.mono (by decide)) (by rfl) T.g__law_draw T.F__law_draw.kp T.b__law_draw (ja_c (jc_lo (jl_var (i := 2) rfl (by first | exact Or.inl rfl | exact Or.inr (Or.inl rfl) | exact Or.inr (Or.inr rfl)))) (ja_c (jc_sh je_int) ja_nil)))))))) ja_nil))))
    (jss_cons (js_set (i := 7) sc.nd rfl (by first | exact Or.inl rfl | exact Or.inr rfl) (jc_sh (je_lst (ja_c (jc_sh je_int) (ja_c (jc_sh (je_neg je_int)) (ja_c (jc_sh (je_bin op_addA os_add (je_bin op_pow os_pow je_int je_int) (je_cell (jc_call (ok__law_draw T) rfl (hr.mono (by decide)) (by rfl) T.g__law_draw T.F__law_draw.kp T.b__law_draw (ja_c (jc_lo (jl_var (i := 2) rfl (by first | exact Or.inl rfl | exact Or.inr (Or.inl rfl) | exact Or.inr (Or.inr rfl)))) (ja_c (jc_sh je_int) ja_nil)))))) (ja_c (jc_sh je_bl) (ja_c (jc_sh je_non) (ja_c (jc_sh je_str) (ja_c (jc_sh (je_tup (ja_c (jc_sh je_int) ja_nil))) (ja_c (jc_sh je_bl) ja_nil)))))))))))
    (jss_cons (js_if (jt_cmp (op_neA hr.units) os_ne (je_cell (jc_callX takesNo (ok_run_code T) rfl (hr.mono (by decide)) (by rfl) T.g_run_code T.F_run_code.kp T.b_run_code (ja_c (jc_sh (je_var (i := 4) rfl (by first | exact Or.inl rfl | exact Or.inr (Or.inl rfl) | exact Or.inr (Or.inr rfl)))) (ja_c (jc_sh (je_var (i := 6) rfl (by first | exact Or.inl rfl | exact Or.inr (Or.inl rfl) | exact Or.inr (Or.inr rfl)))) ja_nil)))) (je_cell (jc_callX takesNo (ok_run_code T) rfl (hr.mono (by decide)) (by rfl) T.g_run_code T.F_run_code.kp T.b_run_code (ja_c (jc_sh (je_var (i := 4) rfl (by first | exact Or.inl rfl | exact Or.inr (Or.inl rfl) | exact Or.inr (Or.inr rfl)))) (ja_c (jc_sh (je_bin op_addA os_add (je_var (i := 6) rfl (by first | exact Or.inl rfl | exact Or.inr (Or.inl rfl) | exact Or.inr (Or.inr rfl))) (je_tup (ja_c (jc_sh (je_ix (je_var (i := 7) rfl (by first | exact Or.inl rfl | exact Or.inr (Or.inl rfl) | exact Or.inr (Or.inr rfl))) (je_cell (jc_call (ok__law_draw T) rfl (hr.mono (by decide)) (by rfl) T.g__law_draw T.F__law_draw.kp T.b__law_draw (ja_c (jc_lo (jl_var (i := 2) rfl (by first | exact Or.inl rfl | exact Or.inr (Or.inl rfl) | exact Or.inr (Or.inr rfl)))) (ja_c (jc_sh je_int) ja_nil)))) (fun _ _ => rfl))) ja_nil)))) ja_nil)))) (nomark _))
    (jss_one (js_ret (jc_sh je_bl)))
    jss_nil)
    (jss_one (js_for PassesOwn.never rfl (ji_range1 (by rfl) T.z_range je_int) (jg_name (i := 8) sc.nd rfl (by first | exact Or.inl rfl | exact Or.inr rfl))
    (jss_cons (js_set (i := 9) sc.nd rfl (by first | exact Or.inl rfl | exact Or.inr rfl) (jc_sh (je_cell (jc_call (ok__law_draw T) rfl (hr.mono (by decide)) (by rfl) T.g__law_draw T.F__law_draw.kp T.b__law_draw (ja_c (jc_lo (jl_var (i := 2) rfl (by first | exact Or.inl rfl | exact Or.inr (Or.inl rfl) | exact Or.inr (Or.inr rfl)))) (ja_c (jc_sh (je_var (i := 5) rfl (by first | exact Or.inl rfl | exact Or.inr (Or.inl rfl) | exact Or.inr (Or.inr rfl)))) ja_nil))))))
    (jss_cons (js_set (i := 10) sc.nd rfl (by first | exact Or.inl rfl | exact Or.inr rfl) (jc_sh (je_slice (je_var (i := 6) rfl (by first | exact Or.inl rfl | exact Or.inr (Or.inl rfl) | exact Or.inr (Or.inr rfl))) jp_none (jp_some (je_var (i := 9) rfl (by first | exact Or.inl rfl | exact Or.inr (Or.inl rfl) | exact Or.inr (Or.inr rfl)))))))
    (jss_cons (js_set (i := 11) sc.nd rfl (by first | exact Or.inl rfl | exact Or.inr rfl) (jc_sh (je_bin op_addA os_add (je_bin op_addA os_add (je_var (i := 10) rfl (by first | exact Or.inl rfl | exact Or.inr (Or.inl rfl) | exact Or.inr (Or.inr rfl))) (je_tup (ja_c (jc_sh (je_ix (je_var (i := 7) rfl (by first | exact Or.inl rfl | exact Or.inr (Or.inl rfl) | exact Or.inr (Or.inr rfl))) (je_cell (jc_call (ok__law_draw T) rfl (hr.mono (by decide)) (by rfl) T.g__law_draw T.F__law_draw.kp T.b__law_draw (ja_c (jc_lo (jl_var (i := 2) rfl (by first | exact Or.inl rfl | exact Or.inr (Or.inl rfl) | exact Or.inr (Or.inr rfl)))) (ja_c (jc_sh je_int) ja_nil)))) (fun _ _ => rfl))) ja_nil))) (je_slice (je_var (i := 6) rfl (by first | exact Or.inl rfl | exact Or.inr (Or.inl rfl) | exact Or.inr (Or.inr rfl))) (jp_some (je_bin op_addA os_add (je_var (i := 9) rfl (by first | exact Or.inl rfl | exact Or.inr (Or.inl rfl) | exact Or.inr (Or.inr rfl))) je_int)) jp_none))))
    (jss_cons (js_set (i := 12) sc.nd rfl (by first | exact Or.inl rfl | exact Or.inr rfl) (jc_sh (je_bin op_addA os_add (je_slice (je_var (i := 11) rfl (by first | exact Or.inl rfl | exact Or.inr (Or.inl rfl) | exact Or.inr (Or.inr rfl))) jp_none (jp_some (je_bin op_addA os_add (je_var (i := 9) rfl (by first | exact Or.inl rfl | exact Or.inr (Or.inl rfl) | exact Or.inr (Or.inr rfl))) je_int))) (je_callTy call_tuple_of cs_tuple (by rfl) T.z_tuple (by decide +kernel) (ja_c (jc_sh (je_fr (jo_comp (own := [("_law_j", 15)]) (by decide) rfl sc.nd (ji_range1 (by rfl) T.z_range (je_cell (jc_call (ok__law_draw T) rfl (hr.mono (by decide)) (by rfl) T.g__law_draw T.F__law_draw.kp T.b__law_draw (ja_c (jc_lo (jl_var (i := 2) rfl (by first | exact Or.inl rfl | exact Or.inr (Or.inl rfl) | exact Or.inr (Or.inr rfl)))) (ja_c (jc_sh je_int) ja_nil))))) (blkOk_by (N := N_law) (sc := defScope s_law) (by decide +kernel)) (fun _ _ _ _ _ => (jg_name (i := 15) sc.nd rfl (by first | exact Or.inl rfl | exact Or.inr rfl))) (fun _ _ _ _ _ => jts_nil) (fun _ _ _ _ _ => (je_ix (je_var (i := 7) rfl (by first | exact Or.inl rfl | exact Or.inr (Or.inl rfl) | exact Or.inr (Or.inr rfl))) (je_cell (jc_call (ok__law_draw T) rfl (hr.mono (by decide)) (by rfl) T.g__law_draw T.F__law_draw.kp T.b__law_draw (ja_c (jc_lo (jl_var (i := 2) rfl (by first | exact Or.inl rfl | exact Or.inr (Or.inl rfl) | exact Or.inr (Or.inr rfl)))) (ja_c (jc_sh je_int) ja_nil)))) (fun _ _ => rfl)))))) ja_nil)))))
    (jss_cons (js_for PassesOwn.never rfl (ji_any (je_tup (ja_c (jc_sh (je_var (i := 10) rfl (by first | exact Or.inl rfl | exact Or.inr (Or.inl rfl) | exact Or.inr (Or.inr rfl)))) (ja_c (jc_sh (je_var (i := 11) rfl (by first | exact Or.inl rfl | exact Or.inr (Or.inl rfl) | exact Or.inr (Or.inr rfl)))) (ja_c (jc_sh (je_var (i := 12) rfl (by first | exact Or.inl rfl | exact Or.inr (Or.inl rfl) | exact Or.inr (Or.inr rfl)))) (ja_c (jc_sh (je_var (i := 10) rfl (by first | exact Or.inl rfl | exact Or.inr (Or.inl rfl) | exact Or.inr (Or.inr rfl)))) ja_nil)))))) (jg_name (i := 13) sc.nd rfl (by first | exact Or.inl rfl | exact Or.inr rfl))
    (jss_one (js_if (jt_not (jt_val (je_cell (jc_call (ok__law_is_number T) rfl (hr.mono (by decide)) (by rfl) T.g__law_is_number T.F__law_is_number.kp T.b__law_is_number (ja_c (jc_sh (je_cell (jc_call (ok__law_refused T) rfl (hr.mono (by decide)) (by rfl) T.g__law_refused T.F__law_refused.kp T.b__law_refused (ja_c (jc_sh (je_var (i := 4) rfl (by first | exact Or.inl rfl | exact Or.inr (Or.inl rfl) | exact Or.inr (Or.inr rfl)))) (ja_c (jc_sh (je_var (i := 13) rfl (by first | exact Or.inl rfl | exact Or.inr (Or.inl rfl) | exact Or.inr (Or.inr rfl)))) ja_nil))))) (ja_c (jc_sh (je_var (i := 9) rfl (by first | exact Or.inl rfl | exact Or.inr (Or.inl rfl) | exact Or.inr (Or.inr rfl)))) ja_nil))))))
    (jss_one (js_ret (jc_sh je_bl)))
    jss_nil)))
    (jss_one (js_if (jt_cmp op_isNotA os_isNot (je_cell (jc_call (ok__law_refused T) rfl (hr.mono (by decide)) (by rfl) T.g__law_refused T.F__law_refused.kp T.b__law_refused (ja_c (jc_sh (je_var (i := 4) rfl (by first | exact Or.inl rfl | exact Or.inr (Or.inl rfl) | exact Or.inr (Or.inr rfl)))) (ja_c (jc_sh (je_var (i := 6) rfl (by first | exact Or.inl rfl | exact Or.inr (Or.inl rfl) | exact Or.inr (Or.inr rfl)))) ja_nil)))) je_non (nomark _))
    (jss_one (js_ret (jc_sh je_bl)))
    jss_nil)))))))))))))))))
    (jss_one (js_ret (jc_sh je_bl))))
end
end Ds.K45
namespace Ds.K45
open PySem PySem.Spec PyProof.Rows L2 Dn
theorem all_mk {l : PySem.W.OpenLaw} {w : World} {K : Frag} {h : Heap} {mg : Str → Option Value} {fa f0 f1 f2 f3 f4 f5 f6 f7 f8 f9 f10 f11 f12 f13 f14 f15 f16 f17 : Addr} {E0 E1 E2 E3 E4 E5 E6 fi0 : Addr} {C0 : Addr} {od0 an0 : Option Addr} {sl0 : Array (Option Value)} {oc0 kV0 dc0 pm0 cd0 ct0 : Value} {od1 an1 : Option Addr} {sl1 : Array (Option Value)} {oc1 kV1 dc1 pm1 cd1 ct1 : Value} {od2 an2 : Option Addr} {sl2 : Array (Option Value)} {oc2 kV2 dc2 pm2 cd2 ct2 : Value} {od3 an3 : Option Addr} {sl3 : Array (Option Value)} {oc3 kV3 dc3 pm3 cd3 ct3 : Value} {od4 an4 : Option Addr} {sl4 : Array (Option Value)} {oc4 kV4 dc4 pm4 cd4 ct4 : Value} {od5 an5 : Option Addr} {sl5 : Array (Option Value)} {oc5 kV5 dc5 pm5 cd5 ct5 : Value} {od6 an6 : Option Addr} {sl6 : Array (Option Value)} {oc6 kV6 dc6 pm6 cd6 ct6 : Value} {od7 an7 : Option Addr} {sl7 : Array (Option Value)} {oc7 kV7 dc7 pm7 cd7 ct7 : Value} {od8 an8 : Option Addr} {sl8 : Array (Option Value)} {oc8 kV8 dc8 pm8 cd8 ct8 : Value} {od9 an9 : Option Addr} {sl9 : Array (Option Value)} {oc9 kV9 dc9 pm9 cd9 ct9 : Value} {od10 an10 : Option Addr} {sl10 : Array (Option Value)} {oc10 kV10 dc10 pm10 cd10 ct10 : Value} {od11 an11 : Option Addr} {sl11 : Array (Option Value)} {oc11 kV11 dc11 pm11 cd11 ct11 : Value} {od12 an12 : Option Addr} {sl12 : Array (Option Value)} {oc12 kV12 dc12 pm12 cd12 ct12 : Value} {od13 an13 : Option Addr} {sl13 : Array (Option Value)} {oc13 kV13 dc13 pm13 cd13 ct13 : Value} {od14 an14 : Option Addr} {sl14 : Array (Option Value)} {oc14 kV14 dc14 pm14 cd14 ct14 : Value} {od15 an15 : Option Addr} {sl15 : Array (Option Value)} {oc15 kV15 dc15 pm15 cd15 ct15 : Value} {od16 an16 : Option Addr} {sl16 : Array (Option Value)} {oc16 kV16 dc16 pm16 cd16 ct16 : Value} {od17 an17 : Option Addr} {sl17 : Array (Option Value)} {oc17 kV17 dc17 pm17 cd17 ct17 : Value} {tk0 : Tok} {tk1 : Tok} {nmX0 qX0 : Str} {NX0 : Addr} {bsX0 bmX0 : List Value} {snX0 : List Str} {subX0 : List Value} {abX0 : Bool} {colX0 : Option Bool} {ddX0 : Option Addr} {m0X0 m1X0 m2X0 m3X0 m5X0 : Option Value} {odX0 anX0 : Option Addr} {slX0 : Array (Option Value)} {ocX0 kVX0 dcX0 pmX0 cdX0 ctrX0 : Value} (X : K.In h) (G : h.Ns mainGlobals mg) (hfa : mg "law" = some (.ref fa))
    (a0 : PySem.W.nsIn K mainGlobals "is_below" = some (some (.ref f0)))
    (l0 : K.lookup f0 = some ⟨oc0, od0, .func (PySem.W.fnOf "is_below" "is_below" (defArgs s_is_below) (defBody s_is_below) (defScope s_is_below) .none kV0 dc0 pm0 an0 cd0 ct0), sl0⟩)
    (c0 : PySem.W.codeIn K cd0 "is_below" = true)
    (k0 : PySem.W.keepIn K (.ref f0) = true)
    (a1 : PySem.W.nsIn K mainGlobals "word_of" = some (some (.ref f1)))
    (l1 : K.lookup f1 = some ⟨oc1, od1, .func (PySem.W.fnOf "word_of" "word_of" (defArgs s_word_of) (defBody s_word_of) (defScope s_word_of) .none kV1 dc1 pm1 an1 cd1 ct1), sl1⟩)
    (c1 : PySem.W.codeIn K cd1 "word_of" = true)
    (k1 : PySem.W.keepIn K (.ref f1) = true)
    (a2 : PySem.W.nsIn K mainGlobals "number_behind" = some (some (.ref f2)))
    (l2 : K.lookup f2 = some ⟨oc2, od2, .func (PySem.W.fnOf "number_behind" "number_behind" (defArgs s_number_behind) (defBody s_number_behind) (defScope s_number_behind) .none kV2 dc2 pm2 an2 cd2 ct2), sl2⟩)
    (c2 : PySem.W.codeIn K cd2 "number_behind" = true)
    (k2 : PySem.W.keepIn K (.ref f2) = true)
    (a3 : PySem.W.nsIn K mainGlobals "answer_at" = some (some (.ref f3)))
    (l3 : K.lookup f3 = some ⟨oc3, od3, .func (PySem.W.fnOf "answer_at" "answer_at" (defArgs s_answer_at) (defBody s_answer_at) (defScope s_answer_at) .none kV3 dc3 pm3 an3 cd3 ct3), sl3⟩)
    (c3 : PySem.W.codeIn K cd3 "answer_at" = true)
    (k3 : PySem.W.keepIn K (.ref f3) = true)
    (a4 : PySem.W.nsIn K mainGlobals "worths_of" = some (some (.ref f4)))
    (l4 : K.lookup f4 = some ⟨oc4, od4, .func (PySem.W.fnOf "worths_of" "worths_of" (defArgs s_worths_of) (defBody s_worths_of) (defScope s_worths_of) .none kV4 dc4 pm4 an4 cd4 ct4), sl4⟩)
    (c4 : PySem.W.codeIn K cd4 "worths_of" = true)
    (k4 : PySem.W.keepIn K (.ref f4) = true)
    (a5 : PySem.W.findIn K (.ref C0) "held" = some (some (.ref f5)))
    (i5 : PySem.W.isFn K (.ref f5) = true)
    (l5 : K.lookup f5 = some ⟨oc5, od5, .func (PySem.W.fnOf "held" "Holding.held" (defArgs s_Holding_held) (defBody s_Holding_held) (defScope s_Holding_held) .none kV5 dc5 pm5 an5 cd5 ct5), sl5⟩)
    (c5 : PySem.W.codeIn K cd5 "Holding.held" = true)
    (k5 : PySem.W.keepIn K (.ref f5) = true)
    (a6 : PySem.W.findIn K (.ref C0) "lay" = some (some (.ref f6)))
    (i6 : PySem.W.isFn K (.ref f6) = true)
    (l6 : K.lookup f6 = some ⟨oc6, od6, .func (PySem.W.fnOf "lay" "Holding.lay" (defArgs s_Holding_lay) (defBody s_Holding_lay) (defScope s_Holding_lay) .none kV6 dc6 pm6 an6 cd6 ct6), sl6⟩)
    (c6 : PySem.W.codeIn K cd6 "Holding.lay" = true)
    (k6 : PySem.W.keepIn K (.ref f6) = true)
    (a7 : PySem.W.nsIn K mainGlobals "done" = some (some (.ref f7)))
    (l7 : K.lookup f7 = some ⟨oc7, od7, .func (PySem.W.fnOf "done" "done" (defArgs s_done) (defBody s_done) (defScope s_done) .none kV7 dc7 pm7 an7 cd7 ct7), sl7⟩)
    (c7 : PySem.W.codeIn K cd7 "done" = true)
    (k7 : PySem.W.keepIn K (.ref f7) = true)
    (a8 : PySem.W.findIn K (.ref C0) "__init__" = some (some (.ref f8)))
    (i8 : PySem.W.isFn K (.ref f8) = true)
    (l8 : K.lookup f8 = some ⟨oc8, od8, .func (PySem.W.fnOf "__init__" "Holding.__init__" (defArgs s_Holding___init__) (defBody s_Holding___init__) (defScope s_Holding___init__) .none kV8 dc8 pm8 an8 cd8 ct8), sl8⟩)
    (c8 : PySem.W.codeIn K cd8 "Holding.__init__" = true)
    (k8 : PySem.W.keepIn K (.ref f8) = true)
    (a9 : PySem.W.findIn K (.ref C0) "kept" = some (some (.ref f9)))
    (i9 : PySem.W.isFn K (.ref f9) = true)
    (l9 : K.lookup f9 = some ⟨oc9, od9, .func (PySem.W.fnOf "kept" "Holding.kept" (defArgs s_Holding_kept) (defBody s_Holding_kept) (defScope s_Holding_kept) .none kV9 dc9 pm9 an9 cd9 ct9), sl9⟩)
    (c9 : PySem.W.codeIn K cd9 "Holding.kept" = true)
    (k9 : PySem.W.keepIn K (.ref f9) = true)
    (a10 : PySem.W.nsIn K mainGlobals "run_code" = some (some (.ref f10)))
    (l10 : K.lookup f10 = some ⟨oc10, od10, .func (PySem.W.fnOf "run_code" "run_code" (defArgs s_run_code) (defBody s_run_code) (defScope s_run_code) .none kV10 dc10 pm10 an10 cd10 ct10), sl10⟩)
    (c10 : PySem.W.codeIn K cd10 "run_code" = true)
    (k10 : PySem.W.keepIn K (.ref f10) = true)
    (a11 : PySem.W.nsIn K mainGlobals "_law_cell_at" = some (some (.ref f11)))
    (l11 : K.lookup f11 = some ⟨oc11, od11, .func (PySem.W.fnOf "_law_cell_at" "_law_cell_at" (defArgs s__law_cell_at) (defBody s__law_cell_at) (defScope s__law_cell_at) .none kV11 dc11 pm11 an11 cd11 ct11), sl11⟩)
    (c11 : PySem.W.codeIn K cd11 "_law_cell_at" = true)
    (k11 : PySem.W.keepIn K (.ref f11) = true)
    (a12 : PySem.W.nsIn K mainGlobals "_law_begin" = some (some (.ref f12)))
    (l12 : K.lookup f12 = some ⟨oc12, od12, .func (PySem.W.fnOf "_law_begin" "_law_begin" (defArgs s__law_begin) (defBody s__law_begin) (defScope s__law_begin) .none kV12 dc12 pm12 an12 cd12 ct12), sl12⟩)
    (c12 : PySem.W.codeIn K cd12 "_law_begin" = true)
    (k12 : PySem.W.keepIn K (.ref f12) = true)
    (a13 : PySem.W.nsIn K mainGlobals "_law_draw" = some (some (.ref f13)))
    (l13 : K.lookup f13 = some ⟨oc13, od13, .func (PySem.W.fnOf "_law_draw" "_law_draw" (defArgs s__law_draw) (defBody s__law_draw) (defScope s__law_draw) .none kV13 dc13 pm13 an13 cd13 ct13), sl13⟩)
    (c13 : PySem.W.codeIn K cd13 "_law_draw" = true)
    (k13 : PySem.W.keepIn K (.ref f13) = true)
    (a14 : PySem.W.nsIn K mainGlobals "_law_order" = some (some (.ref f14)))
    (l14 : K.lookup f14 = some ⟨oc14, od14, .func (PySem.W.fnOf "_law_order" "_law_order" (defArgs s__law_order) (defBody s__law_order) (defScope s__law_order) .none kV14 dc14 pm14 an14 cd14 ct14), sl14⟩)
    (c14 : PySem.W.codeIn K cd14 "_law_order" = true)
    (k14 : PySem.W.keepIn K (.ref f14) = true)
    (a15 : PySem.W.nsIn K mainGlobals "_law_refused" = some (some (.ref f15)))
    (l15 : K.lookup f15 = some ⟨oc15, od15, .func (PySem.W.fnOf "_law_refused" "_law_refused" (defArgs s__law_refused) (defBody s__law_refused) (defScope s__law_refused) .none kV15 dc15 pm15 an15 cd15 ct15), sl15⟩)
    (c15 : PySem.W.codeIn K cd15 "_law_refused" = true)
    (k15 : PySem.W.keepIn K (.ref f15) = true)
    (a16 : PySem.W.nsIn K mainGlobals "_law_is_number" = some (some (.ref f16)))
    (l16 : K.lookup f16 = some ⟨oc16, od16, .func (PySem.W.fnOf "_law_is_number" "_law_is_number" (defArgs s__law_is_number) (defBody s__law_is_number) (defScope s__law_is_number) .none kV16 dc16 pm16 an16 cd16 ct16), sl16⟩)
    (c16 : PySem.W.codeIn K cd16 "_law_is_number" = true)
    (k16 : PySem.W.keepIn K (.ref f16) = true)
    (a17 : PySem.W.nsIn K mainGlobals "law" = some (some (.ref f17)))
    (l17 : K.lookup f17 = some ⟨oc17, od17, .func (PySem.W.fnOf "law" "law" (defArgs s_law) (defBody s_law) (defScope s_law) .none kV17 dc17 pm17 an17 cd17 ct17), sl17⟩)
    (c17 : PySem.W.codeIn K cd17 "law" = true)
    (k17 : PySem.W.keepIn K (.ref f17) = true)
    (A0 : PySem.W.nsIn K mainGlobals "Holding" = some (some (.ref C0)))
    (pg0 : PySem.W.plainGet K C0 Str.empty = true)
    (hd0 : PySem.W.hasDictIn K C0 = true)
    (po0 : PySem.W.plainOver K C0 = true)
    (mk0 : PySem.W.makesIn K C0 = true)
    (kc0 : PySem.W.keepIn K (.ref C0) = true)
    (sa0 : PySem.W.findIn K (.ref C0) "__setattr__" = some (some (.builtin "object.__setattr__")))
    (na0_0 : PySem.W.findIn K (.ref C0) "holds" = some none)
    (na0_1 : PySem.W.findIn K (.ref C0) "nought" = some none)
    (kf : KFr K)
    (z0 : PySem.W.nsIn K mainGlobals "ValueError" = some none)
    (z1 : PySem.W.nsIn K mainGlobals "bool" = some none)
    (z2 : PySem.W.nsIn K mainGlobals "int" = some none)
    (z3 : PySem.W.nsIn K mainGlobals "isinstance" = some none)
    (z4 : PySem.W.nsIn K mainGlobals "len" = some none)
    (z5 : PySem.W.nsIn K mainGlobals "max" = some none)
    (z6 : PySem.W.nsIn K mainGlobals "min" = some none)
    (z7 : PySem.W.nsIn K mainGlobals "range" = some none)
    (z8 : PySem.W.nsIn K mainGlobals "set" = some none)
    (z9 : PySem.W.nsIn K mainGlobals "sorted" = some none)
    (z10 : PySem.W.nsIn K mainGlobals "tuple" = some none)
    (y0 : PySem.W.nsIn K mainGlobals "GREATEST" = some (some (.int 9999 tk0)))
    (y1 : PySem.W.nsIn K mainGlobals "REST" = some (some (.int 10007 tk1)))
    (en0 : PySem.W.nsIn K mainGlobals "NoAnswer" = some (some (.ref E0)))
    (en1 : PySem.W.nsIn K mainGlobals "NoCode" = some (some (.ref E1)))
    (en2 : PySem.W.nsIn K mainGlobals "NoRow" = some (some (.ref E2)))
    (en3 : PySem.W.nsIn K mainGlobals "NoText" = some (some (.ref E3)))
    (en4 : PySem.W.nsIn K mainGlobals "NoTurn" = some (some (.ref E4)))
    (en5 : PySem.W.nsIn K mainGlobals "TooLong" = some (some (.ref E5)))
    (en6 : PySem.W.nsIn K mainGlobals "WipeError" = some (some (.ref E6)))
    (gaX0 : PySem.W.findIn K (.ref E0) "__getattribute__" = some (some (.builtin "BaseException.__getattribute__")))
    (ggX0 : PySem.W.findIn K (.ref E0) "__getattr__" = some none)
    (sbX0 : PySem.W.subIn K (.ref E0) (.type "BaseException") = some true)
    (hxX0 : PySem.W.hasDictIn K E0 = true)
    (caX0 : PySem.W.findIn K (.ref E0) "__class__" = some (some (.builtin "object.__class__")))
    (moX0 : PySem.W.mroIn K E0 (.type "object") = some true)
    (cnX0 : PySem.W.specialIn K (.builtin "object.__class__") "__get__" = some (some (.builtin "getset_descriptor.__get__")))
    (ctX0 : PySem.W.takesIn K (.builtin "object.__class__") = some true)
    (tyX0 : PySem.W.typeIn K (.ref E0) = some (.type "type"))
    (kpX0 : PySem.W.keepIn K (.ref E0) = true)
    (lkX0 : K.lookup E0 = some (excClassObj nmX0 qX0 E0 NX0 bsX0 bmX0 true snX0 subX0 abX0 colX0 ddX0 m0X0 m1X0 m2X0 m3X0 m5X0 "ValueError.__new__"))
    (rvX0 : PySem.HandSPX.refsVE bmX0 = true)
    (saX0 : PySem.W.findIn K (.ref E0) "__setattr__" = some (some (.builtin "object.__setattr__")))
    (inX0 : PySem.W.findIn K (.ref E0) "__init__" = some (some (.ref fi0)))
    (tiX0 : PySem.W.typeIn K (.ref fi0) = some (.type "function"))
    (noX0 : PySem.W.findIn K (.ref E0) "number" = some none)
    (liX0 : K.lookup fi0 = some ⟨ocX0, odX0, .func (PySem.W.fnOf "__init__" "NoAnswer.__init__" (defArgs s_NoAnswer___init__) (defBody s_NoAnswer___init__) (defScope s_NoAnswer___init__) .none kVX0 dcX0 pmX0 anX0 cdX0 ctrX0), slX0⟩)
    (ciX0 : PySem.W.codeIn K cdX0 "NoAnswer.__init__" = true)
    (kiX0 : PySem.W.keepIn K (.ref fi0) = true)
    (bgX0 : PySem.W.specialIn K (.ref E6) "__getattribute__" = some (some (.builtin "type.__getattribute__")))
    (brX0 : PySem.W.readsIn K E6 (.type "type") = true)
    (biX0 : PySem.W.findCls K (.ref E6) (.type "type") "__init__" = some (.val (.builtin "ValueError.__init__")))
    (hs0 : PySem.W.subIn K (.ref E6) (.type "BaseException") = some true)
    (hd0x : PySem.W.hasDictIn K E6 = true)
    (ht0 : PySem.W.typeIn K (.ref E6) = some (.type "type"))
    (hi0_0 : PySem.W.subIn K (.ref E0) (.ref E6) = some true)
    (ki0 : PySem.W.kitAny K (.ref E0) [.ref E1, .ref E2, .ref E3, .ref E4, .ref E5] = some false)
    (ki1 : PySem.W.kitOne K (.ref E0) (.ref E0) = some true)
    (ki2 : PySem.W.kitOne K (.ref E0) (.type "ValueError") = some true) :
    ∃ fd : FuncData, (∀ (s : Shared) (v : Value), BindsTo s fd ⟨[v], []⟩ [("_law_script", v)]) ∧ ∀ base : Heap, K.In base → base.Ns mainGlobals mg → FnOk l.prog w K mg base CX0 7 fa fd ["_law_script"] (spF K 1 f_law) := by
  have e := hfa.symm.trans (PySem.W.mg_of X G a17)
  cases e
  have F0 := fun_mk (st := s_is_below) l0 c0 k0
  have b0 := F0.binds (ps := ["thing", "end"]) fun _ _ _ _ _ _ us hl => match us, hl with | [_, _], _ => rfl
  have F1 := fun_mk (st := s_word_of) l1 c1 k1
  have b1 := F1.binds (ps := ["order"]) fun _ _ _ _ _ _ us hl => match us, hl with | [_], _ => rfl
  have F2 := fun_mk (st := s_number_behind) l2 c2 k2
  have b2 := F2.binds (ps := ["word", "numbers"]) fun _ _ _ _ _ _ us hl => match us, hl with | [_, _], _ => rfl
  have F3 := fun_mk (st := s_answer_at) l3 c3 k3
  have b3 := F3.binds (ps := ["answers", "number"]) fun _ _ _ _ _ _ us hl => match us, hl with | [_, _], _ => rfl
  have F4 := fun_mk (st := s_worths_of) l4 c4 k4
  have b4 := F4.binds (ps := ["word", "there"]) fun _ _ _ _ _ _ us hl => match us, hl with | [_, _], _ => rfl
  have F5 := fun_mk (st := s_Holding_held) l5 c5 k5
  have b5 := F5.binds (ps := ["self", "box"]) fun _ _ _ _ _ _ us hl => match us, hl with | [_, _], _ => rfl
  have F6 := fun_mk (st := s_Holding_lay) l6 c6 k6
  have b6 := F6.binds (ps := ["self", "box", "thing", "worths"]) fun _ _ _ _ _ _ us hl => match us, hl with | [_, _, _, _], _ => rfl
  have F7 := fun_mk (st := s_done) l7 c7 k7
  have b7 := F7.binds (ps := ["holding", "word", "answers", "told"]) fun _ _ _ _ _ _ us hl => match us, hl with | [_, _, _, _], _ => rfl
  have F8 := fun_mk (st := s_Holding___init__) l8 c8 k8
  have b8 := F8.binds (ps := ["self", "nought"]) fun _ _ _ _ _ _ us hl => match us, hl with | [_, _], _ => rfl
  have F9 := fun_mk (st := s_Holding_kept) l9 c9 k9
  have b9 := F9.binds (ps := ["self"]) fun _ _ _ _ _ _ us hl => match us, hl with | [_], _ => rfl
  have F10 := fun_mk (st := s_run_code) l10 c10 k10
  have b10 := F10.binds (ps := ["code", "answers"]) fun _ _ _ _ _ _ us hl => match us, hl with | [_, _], _ => rfl
  have F11 := fun_mk (st := s__law_cell_at) l11 c11 k11
  have b11 := F11.binds (ps := ["_law_script", "_law_k"]) fun _ _ _ _ _ _ us hl => match us, hl with | [_, _], _ => rfl
  have F12 := fun_mk (st := s__law_begin) l12 c12 k12
  have b12 := F12.binds (ps := ["_law_cell"]) fun _ _ _ _ _ _ us hl => match us, hl with | [_], _ => rfl
  have F13 := fun_mk (st := s__law_draw) l13 c13 k13
  have b13 := F13.binds (ps := ["_law_state", "_law_many"]) fun _ _ _ _ _ _ us hl => match us, hl with | [_, _], _ => rfl
  have F14 := fun_mk (st := s__law_order) l14 c14 k14
  have b14 := F14.binds (ps := ["_law_state", "_law_hands"]) fun _ _ _ _ _ _ us hl => match us, hl with | [_, _], _ => rfl
  have F15 := fun_mk (st := s__law_refused) l15 c15 k15
  have b15 := F15.binds (ps := ["_law_code", "_law_answers"]) fun _ _ _ _ _ _ us hl => match us, hl with | [_, _], _ => rfl
  have F16 := fun_mk (st := s__law_is_number) l16 c16 k16
  have b16 := F16.binds (ps := ["_law_told", "_law_due"]) fun _ _ _ _ _ _ us hl => match us, hl with | [_, _], _ => rfl
  have F17 := fun_mk (st := s_law) l17 c17 k17
  have b17 := F17.binds (ps := ["_law_script"]) fun _ _ _ _ _ _ us hl => match us, hl with | [_], _ => rfl
  have FX0 := fun_mk (st := s_NoAnswer___init__) liX0 ciX0 kiX0
  have bX0 := FX0.binds (ps := ["self", "number"]) fun _ _ _ _ _ _ us hl => match us, hl with | [_, _], _ => rfl
  have T : Tx w K mg := ⟨_, _, F0, b0, PySem.W.mg_of X G a0, _, _, F1, b1, PySem.W.mg_of X G a1, _, _, F2, b2, PySem.W.mg_of X G a2, _, _, F3, b3, PySem.W.mg_of X G a3, _, _, F4, b4, PySem.W.mg_of X G a4, _, _, F5, b5, _, _, F6, b6, _, _, F7, b7, PySem.W.mg_of X G a7, _, _, F8, b8, _, _, F9, b9, _, _, F10, b10, PySem.W.mg_of X G a10, _, _, F11, b11, PySem.W.mg_of X G a11, _, _, F12, b12, PySem.W.mg_of X G a12, _, _, F13, b13, PySem.W.mg_of X G a13, _, _, F14, b14, PySem.W.mg_of X G a14, _, _, F15, b15, PySem.W.mg_of X G a15, _, _, F16, b16, PySem.W.mg_of X G a16, _, _, F17, b17, PySem.W.mg_of X G a17, PySem.W.mg_none_of X G z0, PySem.W.mg_none_of X G z1, PySem.W.mg_none_of X G z2, PySem.W.mg_none_of X G z3, PySem.W.mg_none_of X G z4, PySem.W.mg_none_of X G z5, PySem.W.mg_none_of X G z6, PySem.W.mg_none_of X G z7, PySem.W.mg_none_of X G z8, PySem.W.mg_none_of X G z9, PySem.W.mg_none_of X G z10, _, (.int 9999), PySem.W.mg_of X G y0, ⟨_, rfl⟩, fun H => .int _, _, (.int 10007), PySem.W.mg_of X G y1, ⟨_, rfl⟩, fun H => .int _, _, clsA_of A0, ⟨pg0, hd0, po0, sa0⟩, PySem.W.mg_of X G A0, ⟨mk0, a8, i8, kc0⟩, ⟨a5, i5, k5⟩, ⟨a6, i6, k6⟩, ⟨a9, i9, k9⟩, na0_0, na0_1, kf, E0, clsA_of en0, PySem.W.mg_of X G en0, E1, clsA_of en1, PySem.W.mg_of X G en1, E2, clsA_of en2, PySem.W.mg_of X G en2, E3, clsA_of en3, PySem.W.mg_of X G en3, E4, clsA_of en4, PySem.W.mg_of X G en4, E5, clsA_of en5, PySem.W.mg_of X G en5, E6, clsA_of en6, PySem.W.mg_of X G en6, ⟨gaX0, ggX0, sbX0, hxX0, caX0, cnX0, ctX0, moX0⟩, _, _, FX0, bX0, ⟨⟨_, _, _, _, _, _, _, _, _, _, _, _, _, _, _, lkX0, rvX0⟩, saX0, sbX0, tyX0, kpX0⟩, inX0, tiX0, noX0, ⟨gaX0, ggX0, sbX0, hxX0⟩, ⟨bgX0, brX0, biX0⟩, (hitB_cons (clsA_of en0) (PySem.W.exm_ref hs0 hd0x ht0 hi0_0) hitB_nil), ki0, ki1, ki2⟩
  exact ⟨_, fun s v => .of_eq rfl, fun base _ _ => ok_law ⟨_, _, F0, b0, PySem.W.mg_of X G a0, _, _, F1, b1, PySem.W.mg_of X G a1, _, _, F2, b2, PySem.W.mg_of X G a2, _, _, F3, b3, PySem.W.mg_of X G a3, _, _, F4, b4, PySem.W.mg_of X G a4, _, _, F5, b5, _, _, F6, b6, _, _, F7, b7, PySem.W.mg_of X G a7, _, _, F8, b8, _, _, F9, b9, _, _, F10, b10, PySem.W.mg_of X G a10, _, _, F11, b11, PySem.W.mg_of X G a11, _, _, F12, b12, PySem.W.mg_of X G a12, _, _, F13, b13, PySem.W.mg_of X G a13, _, _, F14, b14, PySem.W.mg_of X G a14, _, _, F15, b15, PySem.W.mg_of X G a15, _, _, F16, b16, PySem.W.mg_of X G a16, _, _, F17, b17, PySem.W.mg_of X G a17, PySem.W.mg_none_of X G z0, PySem.W.mg_none_of X G z1, PySem.W.mg_none_of X G z2, PySem.W.mg_none_of X G z3, PySem.W.mg_none_of X G z4, PySem.W.mg_none_of X G z5, PySem.W.mg_none_of X G z6, PySem.W.mg_none_of X G z7, PySem.W.mg_none_of X G z8, PySem.W.mg_none_of X G z9, PySem.W.mg_none_of X G z10, _, (.int 9999), PySem.W.mg_of X G y0, ⟨_, rfl⟩, fun H => .int _, _, (.int 10007), PySem.W.mg_of X G y1, ⟨_, rfl⟩, fun H => .int _, _, clsA_of A0, ⟨pg0, hd0, po0, sa0⟩, PySem.W.mg_of X G A0, ⟨mk0, a8, i8, kc0⟩, ⟨a5, i5, k5⟩, ⟨a6, i6, k6⟩, ⟨a9, i9, k9⟩, na0_0, na0_1, kf, E0, clsA_of en0, PySem.W.mg_of X G en0, E1, clsA_of en1, PySem.W.mg_of X G en1, E2, clsA_of en2, PySem.W.mg_of X G en2, E3, clsA_of en3, PySem.W.mg_of X G en3, E4, clsA_of en4, PySem.W.mg_of X G en4, E5, clsA_of en5, PySem.W.mg_of X G en5, E6, clsA_of en6, PySem.W.mg_of X G en6, ⟨gaX0, ggX0, sbX0, hxX0, caX0, cnX0, ctX0, moX0⟩, _, _, FX0, bX0, ⟨⟨_, _, _, _, _, _, _, _, _, _, _, _, _, _, _, lkX0, rvX0⟩, saX0, sbX0, tyX0, kpX0⟩, inX0, tiX0, noX0, ⟨gaX0, ggX0, sbX0, hxX0⟩, ⟨bgX0, brX0, biX0⟩, (hitB_cons (clsA_of en0) (PySem.W.exm_ref hs0 hd0x ht0 hi0_0) hitB_nil), ki0, ki1, ki2⟩⟩
theorem sp_law (hg : Good) {K : Frag} {H : Hp} {a : Addr} {ns : List Int} (hl : ns.length ≤ 63) (hS : SqL K H a (ns.map V.int)) : spF K 1 f_law [.ref a] H (fun v _ => v = .bl true) fun _ _ _ => False := by
  obtain ⟨δ, hδ⟩ := hg ns hl
  refine ⟨rfl, fun _ => none, ⟨[], H⟩, [.sh (.list (ns.map PyData.int))], [], ?_, .cons (.sh (.lst hS (Rps.of_ints ns))) .nil, ?_⟩
  · exact {
      ex := Ex.refl H
      fg := fun a o q => nomatch q
      len := rfl
      rl := rfl
      sl := fun i c q _ => by simp at q
      ob := fun i c q _ => by simp at q
      nd := List.nodup_nil
      al := fun a ha => by simp at ha
      nt := fun a xs _ => ⟨by simp, rfl⟩
      gx := fun a fs q => nomatch q
      fz := fun l kvs q => by simp at q }
  · rw [hδ]
    intro g' H' e r v rv
    cases rv with
    | sh h =>
      cases h
      rfl
end Ds.K45
open PySem PySem.W PyProof.Rows
set_option maxHeartbeats 0 in
theorem PySem.Challenge.cw_wipeways_k45_answers_that_lack_holds : PySem.Challenge.rw_wipeways_k45_answers_that_lack.Holds := by
  w_on; o_law; k_head; (case hw => w_witness2)
  k_fill
  refine L2.walk_of (l := PySem.Challenge.rw_wipeways_k45_answers_that_lack) (n := 63) (k := 7) (x := "_law_script") (CX := fun _ => L2.CX0) (sp := fun w => Ds.spF _ 1 Ds.K45.f_law) rfl (by decide) rfl ⟨rfl, by decide, by decide⟩ (fun w h Y => PySem.W.kIn_of Y) ?F (fun _ _ a ns hl _ hS => Ds.K45.sp_law Ds.K45.good hl hS) (fun _ _ _ _ _ h => h)
  case F =>
    intro w mg fa h KX G hmg
    refine' Ds.K45.all_mk KX G hmg ?a0 ?l0 ?c0 ?k0 ?a1 ?l1 ?c1 ?k1 ?a2 ?l2 ?c2 ?k2 ?a3 ?l3 ?c3 ?k3 ?a4 ?l4 ?c4 ?k4 ?a5 ?i5 ?l5 ?c5 ?k5 ?a6 ?i6 ?l6 ?c6 ?k6 ?a7 ?l7 ?c7 ?k7 ?a8 ?i8 ?l8 ?c8 ?k8 ?a9 ?i9 ?l9 ?c9 ?k9 ?a10 ?l10 ?c10 ?k10 ?a11 ?l11 ?c11 ?k11 ?a12 ?l12 ?c12 ?k12 ?a13 ?l13 ?c13 ?k13 ?a14 ?l14 ?c14 ?k14 ?a15 ?l15 ?c15 ?k15 ?a16 ?l16 ?c16 ?k16 ?a17 ?l17 ?c17 ?k17 ?A0 ?pg0 ?hd0 ?po0 ?mk0 ?kc0 ?sa0 ?na0_0 ?na0_1 ?kf ?z0 ?z1 ?z2 ?z3 ?z4 ?z5 ?z6 ?z7 ?z8 ?z9 ?z10 ?y0 ?y1 ?en0 ?en1 ?en2 ?en3 ?en4 ?en5 ?en6 ?gaX0 ?ggX0 ?sbX0 ?hxX0 ?caX0 ?moX0 ?cnX0 ?ctX0 ?tyX0 ?kpX0 ?lkX0 ?rvX0 ?saX0 ?inX0 ?tiX0 ?noX0 ?liX0 ?ciX0 ?kiX0 ?bgX0 ?brX0 ?biX0 ?hs0 ?hd0x ?ht0 ?hi0_0 ?ki0 ?ki1 ?ki2
    (case A0 => k_is)
    (case a0 => k_is)
    (case l0 => k_is)
    (case c0 => k_is)
    (case k0 => k_is)
    (case a1 => k_is)
    (case l1 => k_is)
    (case c1 => k_is)
    (case k1 => k_is)
    (case a2 => k_is)
    (case l2 => k_is)
    (case c2 => k_is)
    (case k2 => k_is)
    (case a3 => k_is)
    (case l3 => k_is)
    (case c3 => k_is)
    (case k3 => k_is)
    (case a4 => k_is)
    (case l4 => k_is)
    (case c4 => k_is)
    (case k4 => k_is)
    (case a5 => k_is)
    (case i5 => k_is)
    (case l5 => k_is)
    (case c5 => k_is)
    (case k5 => k_is)
    (case a6 => k_is)
    (case i6 => k_is)
    (case l6 => k_is)
    (case c6 => k_is)
    (case k6 => k_is)
    (case a7 => k_is)
    (case l7 => k_is)
    (case c7 => k_is)
    (case k7 => k_is)
    (case a8 => k_is)
    (case i8 => k_is)
    (case l8 => k_is)
    (case c8 => k_is)
    (case k8 => k_is)
    (case a9 => k_is)
    (case i9 => k_is)
    (case l9 => k_is)
    (case c9 => k_is)
    (case k9 => k_is)
    (case a10 => k_is)
    (case l10 => k_is)
    (case c10 => k_is)
    (case k10 => k_is)
    (case a11 => k_is)
    (case l11 => k_is)
    (case c11 => k_is)
    (case k11 => k_is)
    (case a12 => k_is)
    (case l12 => k_is)
    (case c12 => k_is)
    (case k12 => k_is)
    (case a13 => k_is)
    (case l13 => k_is)
    (case c13 => k_is)
    (case k13 => k_is)
    (case a14 => k_is)
    (case l14 => k_is)
    (case c14 => k_is)
    (case k14 => k_is)
    (case a15 => k_is)
    (case l15 => k_is)
    (case c15 => k_is)
    (case k15 => k_is)
    (case a16 => k_is)
    (case l16 => k_is)
    (case c16 => k_is)
    (case k16 => k_is)
    (case a17 => k_is)
    (case l17 => k_is)
    (case c17 => k_is)
    (case k17 => k_is)
    (case pg0 => k_is)
    (case hd0 => k_is)
    (case po0 => k_is)
    (case mk0 => k_is)
    (case kc0 => k_is)
    (case sa0 => k_is)
    (case na0_0 => k_is)
    (case na0_1 => k_is)
    (case kf => exact Eq.refl true)
    (case z0 => k_is)
    (case z1 => k_is)
    (case z2 => k_is)
    (case z3 => k_is)
    (case z4 => k_is)
    (case z5 => k_is)
    (case z6 => k_is)
    (case z7 => k_is)
    (case z8 => k_is)
    (case z9 => k_is)
    (case z10 => k_is)
    (case y0 => k_is)
    (case y1 => k_is)
    (case en0 => k_is)
    (case en1 => k_is)
    (case en2 => k_is)
    (case en3 => k_is)
    (case en4 => k_is)
    (case en5 => k_is)
    (case en6 => k_is)
    (case gaX0 => k_is)
    (case ggX0 => k_is)
    (case sbX0 => k_is)
    (case hxX0 => k_is)
    (case caX0 => k_is)
    (case moX0 => k_is)
    (case cnX0 => k_is)
    (case ctX0 => k_is)
    (case tyX0 => k_is)
    (case kpX0 => k_is)
    (case lkX0 => k_is)
    (case rvX0 => first | rfl | decide)
    (case saX0 => k_is)
    (case inX0 => k_is)
    (case tiX0 => k_is)
    (case noX0 => k_is)
    (case liX0 => k_is)
    (case ciX0 => k_is)
    (case kiX0 => k_is)
    (case bgX0 => k_is)
    (case brX0 => k_is)
    (case biX0 => k_is)
    (case hs0 => k_is)
    (case hd0x => k_is)
    (case ht0 => k_is)
    (case hi0_0 => k_is)
    (case ki0 => first | k_is | kit_is)
    (case ki1 => first | k_is | kit_is)
    (case ki2 => first | k_is | kit_is)
