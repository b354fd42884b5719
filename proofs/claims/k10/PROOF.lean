import PyProof.Rows.All
import HandS.Wide
import Wide.All
import OpenK.AllK
import Wide.FinOn
import HandS.ForMost
import HandS.TupAny
import HandS.TupLe
import HandS.IsInst
import HandS.Zip
import HandS.NoneIn
import HandS.SetFor
import HandS.SetTxt0
import HandS.Strs
import PyProof.Rows.SortShellAny
import KE.GoesMore
import KE.GoesEnum
import KE.GoesZip
import PyProof.EnumMake
import KE.SortData
import HandS.Conv
import HandS.More
import KE.KDictDisplayH
import HandS.Style
import HandS.TupMul
import HandS.RaiseMore
import HandS.Text
import HandS.WordsExc
import HandS.CallSlots
import HandS.ExcIs
import HandS.TryOnly
import HandS.ExcField
import KE.KExcIs
import HandS.ExcInit
import PySem.Challenge.RW_wipeways_k10_words_one_by_one
set_option Elab.async false
set_option linter.all false
set_option maxRecDepth 100000
set_option maxHeartbeats 4000000
namespace Dn
open PySem PySem.Spec PyProof.Rows L2
abbrev D := PyData
abbrev Frag := PySem.W.Frag
def Ex (H H' : Hp) : Prop := ∀ a o, H a = some o → H' a = some o
theorem Ex.refl (H : Hp) : Ex H H := fun _ _ h => h
theorem Ex.trans {H H1 H2 : Hp} (a : Ex H H1) (b : Ex H1 H2) : Ex H H2 := fun x o h => b x o (a x o h)
theorem ex_new {H : Hp} {p : Addr} {o : HO} (h : H p = none) : Ex H (upd H p o) := fun a u e => by
  by_cases hap : a = p
  · subst hap; rw [h] at e; cases e
  · rw [upd_ne hap]; exact e
theorem rd_ex {H H' : Hp} {a : Addr} {u : HO} (e : Ex H H') (h : Rd H a u) : Rd H' a u := by
  rcases h with h | ⟨o, h⟩
  · exact .inl (e a _ h)
  · exact .inr ⟨o, e a _ h⟩
/-- a tuple that is read: tracked as it is, or one of the module -/
def StT (K : Frag) (H : Hp) (a : Addr) (xs : List V) : Prop :=
  H a = some (.tup xs) ∨ ∃ (o : Obj) (its : Array Value) (n : Nat), K.lookup a = some o ∧ o.cls = .type "tuple" ∧ o.data = .seq its n ∧ its.size ≤ sizeLine ∧ Vals xs its.toList
theorem StT.sq {K : Frag} {H : Hp} {a : Addr} {xs : List V} (h : StT K H a xs) : SqT K H a xs := by
  rcases h with h | h
  · exact .inl (.inl h)
  · exact .inr h
theorem StT.of {K : Frag} {H : Hp} {a : Addr} {xs : List V} (h : H a = some (.tup xs)) : StT K H a xs := .inl h
theorem StT.ex {K : Frag} {H H' : Hp} {a : Addr} {xs : List V} (e : Ex H H') (h : StT K H a xs) : StT K H' a xs := by
  rcases h with h | h
  · exact .inl (e _ _ h)
  · exact .inr h
theorem sqT_ex {K : Frag} {H H' : Hp} {a : Addr} {xs : List V} (e : Ex H H') (h : StT K H a xs) : SqT K H' a xs := (h.ex e).sq
theorem sqL_ex {K : Frag} {H H' : Hp} {a : Addr} {xs : List V} (e : Ex H H') (h : SqL K H a xs) : SqL K H' a xs := by
  rcases h with h | h
  · exact .inl (rd_ex e h)
  · exact .inr h
mutual
inductive Rp (K : Frag) (H : Hp) : V → D → Prop where
  | non : Rp K H .non .none
  | bl (b : Bool) : Rp K H (.bl b) (.bool b)
  | int (i : Int) : Rp K H (.int i) (.int i)
  | str (x : Str) : Rp K H (.str x) (.str x)
  | lst {a : Addr} {xs : List V} {ds : List D} : SqL K H a xs → Rps K H xs ds → Rp K H (.ref a) (.list ds)
  | tup {a : Addr} {xs : List V} {ds : List D} : StT K H a xs → Rps K H xs ds → Rp K H (.ref a) (.tuple ds)
inductive Rps (K : Frag) (H : Hp) : List V → List D → Prop where
  | nil : Rps K H [] []
  | cons {v : V} {vs : List V} {d : D} {ds : List D} : Rp K H v d → Rps K H vs ds → Rps K H (v :: vs) (d :: ds)
end
section
variable {K : Frag} {H H' : Hp}
mutual
theorem Rp.ex (e : Ex H H') : ∀ {v : V} {d : D}, Rp K H v d → Rp K H' v d
  | _, _, .non => .non
  | _, _, .bl b => .bl b
  | _, _, .int i => .int i
  | _, _, .str x => .str x
  | _, _, .lst h t => .lst (sqL_ex e h) (Rps.ex e t)
  | _, _, .tup h t => .tup (h.ex e) (Rps.ex e t)
theorem Rps.ex (e : Ex H H') : ∀ {vs : List V} {ds : List D}, Rps K H vs ds → Rps K H' vs ds
  | _, _, .nil => .nil
  | _, _, .cons h t => .cons (Rp.ex e h) (Rps.ex e t)
end
mutual
theorem Rp.dp : ∀ {v : V} {d : D}, Rp K H v d → Dp K H v d
  | _, _, .non => .non
  | _, _, .bl b => .bl b
  | _, _, .int i => .int i
  | _, _, .str x => .str x
  | _, _, .lst h t => .lst h (Rps.dp t)
  | _, _, .tup h t => .tup h.sq (Rps.dp t)
theorem Rps.dp : ∀ {vs : List V} {ds : List D}, Rps K H vs ds → DpAll K H vs ds
  | _, _, .nil => .nil
  | _, _, .cons h t => .cons (Rp.dp h) (Rps.dp t)
end
theorem Rps.length : ∀ {vs : List V} {ds : List D}, Rps K H vs ds → vs.length = ds.length
  | _, _, .nil => rfl
  | _, _, .cons _ t => by rw [List.length_cons, List.length_cons, Rps.length t]
theorem Rps.get : ∀ {vs : List V} {ds : List D} {i : Nat} {d : D}, Rps K H vs ds → ds[i]? = some d → ∃ v, vs[i]? = some v ∧ Rp K H v d
  | _, _, i, d, .nil, e => by simp at e
  | _, _, 0, d, .cons h _, e => by simp at e; subst e; exact ⟨_, rfl, h⟩
  | _, _, i + 1, d, .cons _ t, e => by
    obtain ⟨v, h1, h2⟩ := Rps.get (i := i) t (by simpa using e)
    exact ⟨v, by simpa using h1, h2⟩
theorem Rps.append : ∀ {vs ws : List V} {ds es : List D}, Rps K H vs ds → Rps K H ws es → Rps K H (vs ++ ws) (ds ++ es)
  | _, _, _, _, .nil, s => s
  | _, _, _, _, .cons h t, s => .cons h (Rps.append t s)
theorem Rps.snoc {vs : List V} {ds : List D} {v : V} {d : D} (h : Rps K H vs ds) (r : Rp K H v d) : Rps K H (vs ++ [v]) (ds ++ [d]) := h.append (.cons r .nil)
theorem Rps.take : ∀ {vs : List V} {ds : List D} (n : Nat), Rps K H vs ds → Rps K H (vs.take n) (ds.take n)
  | _, _, 0, _ => .nil
  | _, _, _ + 1, .nil => .nil
  | _, _, n + 1, .cons h t => .cons h (Rps.take n t)
theorem Rps.drop : ∀ {vs : List V} {ds : List D} (n : Nat), Rps K H vs ds → Rps K H (vs.drop n) (ds.drop n)
  | _, _, 0, h => h
  | _, _, _ + 1, .nil => .nil
  | _, _, n + 1, .cons _ t => Rps.drop n t
theorem Rps.set {v : V} {d : D} (r : Rp K H v d) : ∀ {vs : List V} {ds : List D} (i : Nat), Rps K H vs ds → Rps K H (vs.set i v) (ds.set i d)
  | _, _, _, .nil => .nil
  | _, _, 0, .cons _ t => .cons r t
  | _, _, i + 1, .cons h t => .cons h (Rps.set r i t)
theorem Rps.erase : ∀ {vs : List V} {ds : List D} (i : Nat), Rps K H vs ds → Rps K H (vs.eraseIdx i) (ds.eraseIdx i)
  | _, _, _, .nil => .nil
  | _, _, 0, .cons _ t => t
  | _, _, i + 1, .cons h t => .cons h (Rps.erase i t)
theorem Rps.ints : ∀ {vs : List V} {ns : List Int}, Rps K H vs (ns.map PyData.int) → vs = ns.map V.int
  | _, [], .nil => rfl
  | _, n :: ns, .cons h t => by
    cases h
    rw [List.map_cons, Rps.ints t]
theorem Rps.of_ints : ∀ (ns : List Int), Rps K H (ns.map V.int) (ns.map PyData.int)
  | [] => .nil
  | n :: ns => .cons (.int n) (Rps.of_ints ns)
theorem Rps.strs : ∀ {vs : List V} {ns : List Str}, Rps K H vs (ns.map PyData.str) → vs = ns.map V.str
  | _, [], .nil => rfl
  | _, n :: ns, .cons h t => by
    cases h
    rw [List.map_cons, Rps.strs t]
theorem Rps.of_strs : ∀ (ns : List Str), Rps K H (ns.map V.str) (ns.map PyData.str)
  | [] => .nil
  | n :: ns => .cons (.str n) (Rps.of_strs ns)
end
inductive Sl where
  | no
  | sh (d : D)
  | ow (xs : List D)
abbrev Env := List Sl
def Sl.own : Sl → Bool
  | .ow _ => true
  | _ => false
structure Exn where
  cls : Str
  num : Option Int
inductive Res (α : Type) where
  | ok (a : α) (e : Env)
  | exc (x : Exn) (e : Env)
  | bad
abbrev M (α : Type) := Env → Res α
def mPure {α : Type} (a : α) : M α := fun e => .ok a e
def mBind {α β : Type} (m : M α) (f : α → M β) : M β := fun e => match m e with
  | .ok a e' => f a e'
  | .exc x e' => .exc x e'
  | .bad => .bad
def mOpt {α : Type} (o : Option α) : M α := fun e => match o with
  | some a => .ok a e
  | none => .bad
def OwR (K : Frag) (Hs : Hp) : Sl → HO → Prop
  | .ow xs, .lst vs => Rps K Hs vs xs
  | _, _ => False
theorem OwR.ex {K : Frag} {H H' : Hp} (e : Ex H H') : ∀ {s : Sl} {o : HO}, OwR K H s o → OwR K H' s o := fun {s o} h => by
  cases s with
  | ow xs =>
    cases o with
    | lst vs => exact Rps.ex e h
    | _ => exact h
  | _ => exact h
/-- pn: the slots that hold a caller's own lists (they stay); G: what others hold -/
structure Wd where
  pn : List (Nat × V)
  G : Hp
structure RE (K : Frag) (W : Wd) (Hs H : Hp) (σ : L2.St) (δ : Env) : Prop where
  ex : Ex Hs H
  fg : ∀ a o, W.G a = some o → H a = some o ∧ Hs a = none
  len : σ.length = δ.length
  sh : ∀ (i : Nat) (d : D), δ[i]? = some (Sl.sh d) → ∃ v : V, σ[i]? = some (some v) ∧ Rp K Hs v d
  ow : ∀ (i : Nat) (s : Sl), δ[i]? = some s → s.own = true → ∃ (a : Addr) (o : HO), σ[i]? = some (some (V.ref a)) ∧ H a = some o ∧ OwR K Hs s o ∧ Hs a = none ∧ W.G a = none
  ap : ∀ (i j : Nat) (s t : Sl) (a : Addr), δ[i]? = some s → s.own = true → δ[j]? = some t → t.own = true → σ[i]? = some (some (V.ref a)) → σ[j]? = some (some (V.ref a)) → i = j
  pin : ∀ p ∈ W.pn, σ[p.1]? = some (some p.2) ∧ ∃ s : Sl, δ[p.1]? = some s ∧ s.own = true
/-- new stable things, all of them fresh -/
structure Gr (Hs H Hs' H' : Hp) : Prop where
  s : Ex Hs Hs'
  h : Ex H H'
  i : Ex Hs' H'
  f : ∀ a, H a ≠ none → Hs' a = Hs a
theorem Gr.refl {Hs H : Hp} (e : Ex Hs H) : Gr Hs H Hs H := ⟨Ex.refl _, Ex.refl _, e, fun _ _ => rfl⟩
theorem ex_none {Hs H : Hp} {p : Addr} (e : Ex Hs H) (h : H p = none) : Hs p = none := by
  cases q : Hs p with
  | none => rfl
  | some o => rw [e p o q] at h; cases h
theorem Gr.new {Hs H : Hp} {p : Addr} {o : HO} (e : Ex Hs H) (h : H p = none) : Gr Hs H (upd Hs p o) (upd H p o) where
  s := ex_new (ex_none e h)
  h := ex_new h
  i := fun a u q => by
    by_cases hap : a = p
    · subst hap; rw [upd_same] at q ⊢; exact q
    · rw [upd_ne hap] at q ⊢; exact e a u q
  f := fun a ha => by
    have hap : a ≠ p := fun z => ha (z ▸ h)
    rw [upd_ne hap]
theorem Gr.trans {Hs H Hs1 H1 Hs2 H2 : Hp} (a : Gr Hs H Hs1 H1) (b : Gr Hs1 H1 Hs2 H2) : Gr Hs H Hs2 H2 where
  s := a.s.trans b.s
  h := a.h.trans b.h
  i := b.i
  f := fun x hx => by
    have h1 : H1 x ≠ none := by
      cases q : H x with
      | none => exact absurd q hx
      | some o => rw [a.h x o q]; simp
    rw [b.f x h1, a.f x hx]
section
variable {K : Frag} {W : Wd} {Hs H Hs' H' : Hp} {σ σ' : L2.St} {δ δ' : Env}
theorem RE.grow (r : RE K W Hs H σ δ) (g : Gr Hs H Hs' H') : RE K W Hs' H' σ δ where
  ex := g.i
  fg := fun a o q => by
    obtain ⟨h1, h2⟩ := r.fg a o q
    refine ⟨g.h a o h1, ?_⟩
    rw [g.f a (by rw [h1]; simp), h2]
  len := r.len
  sh := fun i d q => by
    obtain ⟨v, h1, h2⟩ := r.sh i d q
    exact ⟨v, h1, h2.ex g.s⟩
  ow := fun i s q w => by
    obtain ⟨a, o, h1, h2, h3, h4, h5⟩ := r.ow i s q w
    refine ⟨a, o, h1, g.h a o h2, h3.ex g.s, ?_, h5⟩
    rw [g.f a (by rw [h2]; simp), h4]
  ap := r.ap
  pin := r.pin
/-- a slot that says nothing may hold anything -/
theorem RE.sig (r : RE K W Hs H σ δ) (hl : σ'.length = σ.length) (h : ∀ (i : Nat) (s : Sl), δ[i]? = some s → s ≠ Sl.no → σ'[i]? = σ[i]?) : RE K W Hs H σ' δ where
  ex := r.ex
  fg := r.fg
  len := hl.trans r.len
  sh := fun i d q => by rw [h i _ q (by simp)]; exact r.sh i d q
  ow := fun i s q w => by rw [h i s q (by rintro rfl; cases w)]; exact r.ow i s q w
  ap := fun i j s t a h1 h2 h3 h4 h5 h6 => by
    rw [h i s h1 (by rintro rfl; cases h2)] at h5
    rw [h j t h3 (by rintro rfl; cases h4)] at h6
    exact r.ap i j s t a h1 h2 h3 h4 h5 h6
  pin := fun p hp => by
    obtain ⟨h1, s, h2, h3⟩ := r.pin p hp
    refine ⟨?_, s, h2, h3⟩
    rw [h p.1 s h2 (by rintro rfl; cases h3)]
    exact h1
/-- less is said -/
theorem RE.less (r : RE K W Hs H σ δ) (hl : δ'.length = δ.length) (h : ∀ (i : Nat) (s : Sl), δ'[i]? = some s → s = Sl.no ∨ δ[i]? = some s) (hp : ∀ p ∈ W.pn, δ'[p.1]? = δ[p.1]?) : RE K W Hs H σ δ' where
  ex := r.ex
  fg := r.fg
  len := r.len.trans hl.symm
  sh := fun i d q => by
    rcases h i _ q with z | z
    · cases z
    · exact r.sh i d z
  ow := fun i s q w => by
    rcases h i _ q with z | z
    · subst z; cases w
    · exact r.ow i s z w
  ap := fun i j s t a h1 h2 h3 h4 h5 h6 => by
    rcases h i _ h1 with z | z
    · subst z; cases h2
    · rcases h j _ h3 with z' | z'
      · subst z'; cases h4
      · exact r.ap i j s t a z h2 z' h4 h5 h6
  pin := fun p hpn => by
    obtain ⟨h1, s, h2, h3⟩ := r.pin p hpn
    exact ⟨h1, s, (hp p hpn).trans h2, h3⟩
end
theorem setGet {α : Type} {l : List α} {i j : Nat} {x s : α} (h : (l.set i x)[j]? = some s) : (j = i ∧ s = x) ∨ (j ≠ i ∧ l[j]? = some s) := by
  by_cases e : j = i
  · subst e
    by_cases hl : j < l.length
    · rw [List.getElem?_set_self hl] at h
      exact .inl ⟨rfl, (Option.some.inj h).symm⟩
    · rw [List.getElem?_eq_none (by simpa using hl)] at h; cases h
  · rw [List.getElem?_set_ne (Ne.symm e)] at h
    exact .inr ⟨e, h⟩
theorem set_lt {α : Type} {l : List α} {i : Nat} {x s : α} (h : (l.set i x)[i]? = some s) : i < l.length := by
  by_cases hl : i < l.length
  · exact hl
  · rw [List.getElem?_eq_none (by simpa using hl)] at h; cases h
/-- a fresh list that no name holds yet -/
structure FrO (K : Frag) (W : Wd) (Hs H : Hp) (σ : L2.St) (δ : Env) (a : Addr) (xs : List D) : Prop where
  at_ : ∃ vs, H a = some (.lst vs) ∧ Rps K Hs vs xs
  hs : Hs a = none
  g : W.G a = none
  ne : ∀ (i : Nat) (s : Sl), δ[i]? = some s → s.own = true → σ[i]? ≠ some (some (V.ref a))
section
variable {K : Frag} {W : Wd} {Hs H Hs' H' : Hp} {σ : L2.St} {δ : Env} {v : V} {d : D} {i : Nat} {a : Addr} {xs : List D}
theorem RE.setSh (r : RE K W Hs H σ δ) (h : Rp K Hs v d) (hi : i ∉ W.pn.map (·.1)) : RE K W Hs H (σ.set i (some v)) (δ.set i (.sh d)) where
  ex := r.ex
  fg := r.fg
  len := by rw [List.length_set, List.length_set]; exact r.len
  sh := fun j e q => by
    rcases setGet q with ⟨rfl, z⟩ | ⟨hj, z⟩
    · cases z
      have hl := set_lt q
      exact ⟨v, by rw [List.getElem?_set_self (by rw [r.len]; exact hl)], h⟩
    · rw [List.getElem?_set_ne (Ne.symm hj)]
      exact r.sh j e z
  ow := fun j s q w => by
    rcases setGet q with ⟨rfl, z⟩ | ⟨hj, z⟩
    · subst z; cases w
    · rw [List.getElem?_set_ne (Ne.symm hj)]
      exact r.ow j s z w
  ap := fun j k s t b h1 h2 h3 h4 h5 h6 => by
    rcases setGet h1 with ⟨rfl, z⟩ | ⟨hj, z⟩
    · subst z; cases h2
    · rcases setGet h3 with ⟨rfl, z'⟩ | ⟨hk, z'⟩
      · subst z'; cases h4
      · rw [List.getElem?_set_ne (Ne.symm hj)] at h5
        rw [List.getElem?_set_ne (Ne.symm hk)] at h6
        exact r.ap j k s t b z h2 z' h4 h5 h6
  pin := fun p hp => by
    have hne : i ≠ p.1 := fun z => hi (z ▸ List.mem_map_of_mem hp)
    rw [List.getElem?_set_ne hne, List.getElem?_set_ne hne]
    exact r.pin p hp
/-- the list of a slot is changed in place -/
theorem RE.write {s : Sl} {o : HO} (r : RE K W Hs H σ δ) {t : Sl} (ht : δ[i]? = some t) (hto : t.own = true) (ha : σ[i]? = some (some (V.ref a))) (hs : s.own = true) (ho : OwR K Hs s o) : RE K W Hs (upd H a o) σ (δ.set i s) := by
  obtain ⟨a', o', e1, e2, e3, e4, e5⟩ := r.ow i t ht hto
  have haa : a' = a := by rw [ha] at e1; cases e1; rfl
  subst haa
  have hil : i < δ.length := (List.getElem?_eq_some_iff.mp ht).1
  exact {
    ex := fun b u q => by
      have hb : b ≠ a' := fun z => by rw [z, e4] at q; cases q
      rw [upd_ne hb]; exact r.ex b u q
    fg := fun b u q => by
      have hb : b ≠ a' := fun z => by rw [z, e5] at q; cases q
      rw [upd_ne hb]; exact r.fg b u q
    len := by rw [List.length_set]; exact r.len
    sh := fun j e q => by
      rcases setGet q with ⟨rfl, z⟩ | ⟨hj, z⟩
      · subst z; cases hs
      · exact r.sh j e z
    ow := fun j u q w => by
      rcases setGet q with ⟨rfl, z⟩ | ⟨hj, z⟩
      · subst z; exact ⟨a', o, ha, upd_same, ho, e4, e5⟩
      · obtain ⟨b, p, f1, f2, f3, f4, f5⟩ := r.ow j u z w
        have hb : b ≠ a' := fun zz => by
          subst zz
          exact hj (r.ap j i u t b z w ht hto f1 ha)
        exact ⟨b, p, f1, by rw [upd_ne hb]; exact f2, f3, f4, f5⟩
    ap := fun j k u w b h1 h2 h3 h4 h5 h6 => by
      have f : ∀ {j : Nat} {u : Sl}, (δ.set i s)[j]? = some u → u.own = true → ∃ u', δ[j]? = some u' ∧ u'.own = true := fun {j u} q w => by
        rcases setGet q with ⟨rfl, z⟩ | ⟨hj, z⟩
        · exact ⟨t, ht, hto⟩
        · exact ⟨u, z, w⟩
      obtain ⟨u1, q1, w1⟩ := f h1 h2
      obtain ⟨u2, q2, w2⟩ := f h3 h4
      exact r.ap j k u1 u2 b q1 w1 q2 w2 h5 h6
    pin := fun p hp => by
      obtain ⟨h1, u, h2, h3⟩ := r.pin p hp
      refine ⟨h1, ?_⟩
      by_cases hpi : i = p.1
      · exact ⟨s, by rw [← hpi, List.getElem?_set_self hil], hs⟩
      · exact ⟨u, by rw [List.getElem?_set_ne hpi]; exact h2, h3⟩ }
end
end Dn
namespace Dn
open PySem PySem.Spec PyProof.Rows L2
/-- what is wanted of an exception -/
abbrev XQ := Exn → L2.St → Hp → Prop
abbrev noX : XQ := fun _ _ _ => False
def Post {α : Type} (K : Frag) (E : XQ) (W : Wd) (Hs : Hp) (σ : L2.St) (r : Res α) (Q : α → Hp → Hp → Env → Prop) : Prop :=
  match r with
  | .ok a δ' => ∀ Hs' H', Ex Hs Hs' → RE K W Hs' H' σ δ' → Q a Hs' H' δ'
  | .exc x δ' => ∀ Hs' H', Ex Hs Hs' → RE K W Hs' H' σ δ' → E x σ H'
  | .bad => False
theorem Post.ex {α : Type} {K : Frag} {E : XQ} {W : Wd} {Hs Hs1 : Hp} {σ : L2.St} {r : Res α} {Q : α → Hp → Hp → Env → Prop} (h : Post K E W Hs σ r Q) (e : Ex Hs Hs1) : Post K E W Hs1 σ r Q := by
  cases r with
  | ok a δ' => exact fun Hs' H' e' r => h Hs' H' (e.trans e') r
  | exc x δ' => exact fun Hs' H' e' r => h Hs' H' (e.trans e') r
  | bad => exact h
theorem Post.of {α : Type} {K : Frag} {E : XQ} {W : Wd} {Hs H : Hp} {σ : L2.St} {a : α} {δ : Env} {Q : α → Hp → Hp → Env → Prop} (h : Post K E W Hs σ (.ok a δ) Q) (r : RE K W Hs H σ δ) : Q a Hs H δ := h Hs H (Ex.refl _) r
theorem Post.grow {α : Type} {K : Frag} {E : XQ} {W : Wd} {Hs H Hs' H' : Hp} {σ : L2.St} {a : α} {δ : Env} {Q : α → Hp → Hp → Env → Prop} (h : Post K E W Hs σ (.ok a δ) Q) (r : RE K W Hs H σ δ) (g : Gr Hs H Hs' H') : Q a Hs' H' δ :=
  h Hs' H' g.s (r.grow g)
/-- a run from some world that the slots and the heap bear -/
def Cf {α : Type} (K : Frag) (E : XQ) (ps : List Nat) (m : M α) (σ : L2.St) (H : Hp) (Q : Wd → α → Hp → Hp → Env → Prop) : Prop :=
  ∃ (W : Wd) (Hs : Hp) (δ : Env), W.pn.map (·.1) = ps ∧ RE K W Hs H σ δ ∧ Post K E W Hs σ (m δ) (Q W)
def tOf (K : Frag) (E : XQ) (ps : List Nat) (m : M D) : TE := fun σ H Q => Cf K E ps m σ H fun _ d Hs' H' _ => ∀ v, Rp K Hs' v d → Q v H'
def tOfT (K : Frag) (E : XQ) (ps : List Nat) (m : M Bool) : TT := fun σ H Q => Cf K E ps m σ H fun _ b _ H' _ => Q b H'
def tOfO (K : Frag) (E : XQ) (ps : List Nat) (m : M (List D)) : TE := fun σ H Q => Cf K E ps m σ H fun W xs Hs' H' δ' => ∀ a, FrO K W Hs' H' σ δ' a xs → Q (.ref a) H'
/-- an argument: shared data, or a list of one's own -/
inductive Ag where
  | sh (d : D)
  | ow (i : Nat)
def AgR (K : Frag) (Hs : Hp) (σ : L2.St) : List V → List Ag → Prop
  | [], [] => True
  | v :: vs, .sh d :: gs => Rp K Hs v d ∧ AgR K Hs σ vs gs
  | v :: vs, .ow i :: gs => σ[i]? = some (some v) ∧ AgR K Hs σ vs gs
  | _, _ => False
def tOfA (K : Frag) (E : XQ) (ps : List Nat) (m : M (List Ag)) : TA := fun σ H Q => Cf K E ps m σ H fun _ gs Hs' H' _ => ∀ vs, AgR K Hs' σ vs gs → Q vs H'
theorem AgR.ex {K : Frag} {Hs Hs' : Hp} {σ : L2.St} (e : Ex Hs Hs') : ∀ {vs : List V} {gs : List Ag}, AgR K Hs σ vs gs → AgR K Hs' σ vs gs
  | [], [], _ => trivial
  | [], _ :: _, h => h.elim
  | _ :: _, [], h => h.elim
  | _ :: _, .sh _ :: _, h => ⟨h.1.ex e, AgR.ex e h.2⟩
  | _ :: _, .ow _ :: _, h => ⟨h.1, AgR.ex e h.2⟩
section
variable {K : Frag} {E : XQ} {ps : List Nat} {W : Wd} {Hs H : Hp} {σ : L2.St} {δ : Env}
/-- one step of a run: a part is run, the rest goes on -/
theorem Cf.step {α β : Type} {ma : M α} {f : α → M β} {QQ : β → Hp → Hp → Env → Prop} {R : Wd → α → Hp → Hp → Env → Prop} (hp : W.pn.map (·.1) = ps) (re : RE K W Hs H σ δ) (po : Post K E W Hs σ (mBind ma f δ) QQ)
    (k : ∀ a Hs1 H1 δ1, Ex Hs Hs1 → RE K W Hs1 H1 σ δ1 → Post K E W Hs1 σ (f a δ1) QQ → R W a Hs1 H1 δ1) : Cf K E ps ma σ H R := by
  refine ⟨W, Hs, δ, hp, re, ?_⟩
  unfold mBind at po
  cases h : ma δ with
  | ok a δ1 =>
    rw [h] at po
    exact fun Hs' H' e r => k a Hs' H' δ1 e r (Post.ex po e)
  | exc x δ1 =>
    rw [h] at po
    exact po
  | bad =>
    rw [h] at po
    exact po
theorem tOf.step {β : Type} {ma : M D} {f : D → M β} {QQ : β → Hp → Hp → Env → Prop} {R : V → Hp → Prop} (hp : W.pn.map (·.1) = ps) (re : RE K W Hs H σ δ) (po : Post K E W Hs σ (mBind ma f δ) QQ)
    (k : ∀ v d Hs1 H1 δ1, Ex Hs Hs1 → RE K W Hs1 H1 σ δ1 → Rp K Hs1 v d → Post K E W Hs1 σ (f d δ1) QQ → R v H1) : tOf K E ps ma σ H R :=
  Cf.step hp re po fun d Hs1 H1 δ1 e r p v rv => k v d Hs1 H1 δ1 e r rv p
theorem tOfT.step {β : Type} {ma : M Bool} {f : Bool → M β} {QQ : β → Hp → Hp → Env → Prop} {R : Bool → Hp → Prop} (hp : W.pn.map (·.1) = ps) (re : RE K W Hs H σ δ) (po : Post K E W Hs σ (mBind ma f δ) QQ)
    (k : ∀ b Hs1 H1 δ1, Ex Hs Hs1 → RE K W Hs1 H1 σ δ1 → Post K E W Hs1 σ (f b δ1) QQ → R b H1) : tOfT K E ps ma σ H R :=
  Cf.step hp re po k
theorem tOfA.step {β : Type} {ma : M (List Ag)} {f : List Ag → M β} {QQ : β → Hp → Hp → Env → Prop} {R : List V → Hp → Prop} (hp : W.pn.map (·.1) = ps) (re : RE K W Hs H σ δ) (po : Post K E W Hs σ (mBind ma f δ) QQ)
    (k : ∀ vs gs Hs1 H1 δ1, Ex Hs Hs1 → RE K W Hs1 H1 σ δ1 → AgR K Hs1 σ vs gs → Post K E W Hs1 σ (f gs δ1) QQ → R vs H1) : tOfA K E ps ma σ H R :=
  Cf.step hp re po fun gs Hs1 H1 δ1 e r p vs rv => k vs gs Hs1 H1 δ1 e r rv p
theorem tOfO.step {β : Type} {ma : M (List D)} {f : List D → M β} {QQ : β → Hp → Hp → Env → Prop} {R : V → Hp → Prop} (hp : W.pn.map (·.1) = ps) (re : RE K W Hs H σ δ) (po : Post K E W Hs σ (mBind ma f δ) QQ)
    (k : ∀ a xs Hs1 H1 δ1, Ex Hs Hs1 → RE K W Hs1 H1 σ δ1 → FrO K W Hs1 H1 σ δ1 a xs → Post K E W Hs1 σ (f xs δ1) QQ → R (.ref a) H1) : tOfO K E ps ma σ H R :=
  Cf.step hp re po fun xs Hs1 H1 δ1 e r p a fa => k a xs Hs1 H1 δ1 e r fa p
/-- the last part of a run -/
theorem Cf.last {α : Type} {ma : M α} {R : Wd → α → Hp → Hp → Env → Prop} (hp : W.pn.map (·.1) = ps) (re : RE K W Hs H σ δ) (po : Post K E W Hs σ (ma δ) (R W)) : Cf K E ps ma σ H R := ⟨W, Hs, δ, hp, re, po⟩
theorem Post.opt {α : Type} {o : Option α} {QQ : α → Hp → Hp → Env → Prop} (po : Post K E W Hs σ (mOpt o δ) QQ) : ∃ a, o = some a ∧ Post K E W Hs σ (.ok a δ) QQ := by
  unfold mOpt at po
  cases o with
  | none => exact po.elim
  | some a => exact ⟨a, rfl, po⟩
end
theorem pe_imp {X : Cx} {e : Expr} {t t' : TE} (h : PE X e t) (k : ∀ σ H Q, t' σ H Q → t σ H Q) : PE X e t' := ⟨fun pins s σ H Q I q => h.run pins s σ H Q I (k σ H Q q)⟩
theorem pt_imp {X : Cx} {e : Expr} {t t' : TT} (h : PT X e t) (k : ∀ σ H Q, t' σ H Q → t σ H Q) : PT X e t' := ⟨fun pins s σ H Q I q => h.run pins s σ H Q I (k σ H Q q)⟩
theorem pw_imp {X : Cx} {e : Expr} {t t' : TT} (h : PW X e t) (k : ∀ σ H Q, t' σ H Q → t σ H Q) : PW X e t' := ⟨fun wh pins s σ H Q I q => h.run wh pins s σ H Q I (k σ H Q q)⟩
theorem pa_imp {X : Cx} {e : List Expr} {t t' : TA} (h : PA X e t) (k : ∀ σ H Q, t' σ H Q → t σ H Q) : PA X e t' := ⟨fun p pins s σ H Q I q => h.run p pins s σ H Q I (k σ H Q q)⟩
theorem pst_imp {X : Cx} {e : Stmt} {t t' : TS} (h : PS X e t) (k : ∀ D σ H, t' D σ H → t D σ H) : PS X e t' := ⟨fun pins s σ H D I q => h.run pins s σ H D I (k D σ H q)⟩
theorem pss_imp {X : Cx} {e : List Stmt} {t t' : TS} (h : PSs X e t) (k : ∀ D σ H, t' D σ H → t D σ H) : PSs X e t' := ⟨fun pins s σ H D I q => h.run pins s σ H D I (k D σ H q)⟩
section
variable {X : Cx} {E : XQ} {ps : List Nat} {a b e : Expr} {pos : Pos} {ma mb : M D}
def mVar (i : Nat) : M D := fun δ => match δ[i]? with
  | some (.sh d) => .ok d δ
  | _ => .bad
theorem je_var {i : Nat} {x : Str} (hN : X.N[i]? = some x) (hv : Vis X.env.scope x) (hd : (x == ("__debug__" : Str)) = false := by decide) (hcd : (x == ("__classdict__" : Str)) = false := by decide) : PE X (.Name x pos) (tOf X.K E ps (mVar i)) :=
  pe_imp (pe_var hN hv hd hcd) fun σ H Q ⟨W, Hs, δ, hp, re, po⟩ => by
    unfold mVar at po
    split at po
    · rename_i d hd
      obtain ⟨v, h1, h2⟩ := re.sh i d hd
      exact ⟨v, h1, po Hs H (Ex.refl _) re v h2⟩
    · exact po.elim
/-- a constant -/
def mC (d : D) : M D := mPure d
theorem je_c {t : TE} {d : D} {v : V} (h : PE X e (tC v)) (hv : ∀ H, Rp X.K H v d) : PE X e (tOf X.K E ps (mC d)) :=
  pe_imp h fun σ H Q ⟨W, Hs, δ, hp, re, po⟩ => Post.of po re v (hv Hs)
theorem je_int {i : Int} {j pos} : PE X (.Constant (.int i) j pos) (tOf X.K E ps (mC (.int i))) := je_c (t := tC (.int i)) pe_int fun _ => .int i
theorem je_bl {i : Bool} {j pos} : PE X (.Constant (.bool i) j pos) (tOf X.K E ps (mC (.bool i))) := je_c (t := tC (.bl i)) pe_bl fun _ => .bl i
theorem je_non {j pos} : PE X (.Constant .none j pos) (tOf X.K E ps (mC .none)) := je_c (t := tC .non) pe_non fun _ => .non
theorem je_str {x : Str} {j pos} : PE X (.Constant (.str x) j pos) (tOf X.K E ps (mC (.str x))) := je_c (t := tC (.str x)) pe_str fun _ => .str x
theorem je_glob {x : Str} {v : V} {u : Value} {d : D} (hg : Gl X x) (hm : X.mg x = some u) (r : RelV v u) (hv : ∀ H, Rp X.K H v d) (hd : (x == ("__debug__" : Str)) = false := by decide) : PE X (.Name x pos) (tOf X.K E ps (mC d)) := je_c (t := tC v) (pe_glob hg hm r hd) hv
/-- a reading by values gives what a function upon data tells -/
def OpS (K : Frag) (r : R2) (g : D → D → Option D) : Prop := ∀ Hs H x y d e c (Q : VK), Ex Hs H → Rp K Hs x d → Rp K Hs y e → g d e = some c → (∀ v Hs' H', Gr Hs H Hs' H' → Rp K Hs' v c → Q v H') → r x y H Q
theorem OpS.or {K : Frag} {r r' : R2} {g g' : D → D → Option D} (h : OpS K r g) (h' : OpS K r' g') : OpS K (fun x y H Q => r x y H Q ∨ r' x y H Q) (fun d e => (g d e).or (g' d e)) := fun Hs H x y d e c Q ex rx ry hg k => by
  have hg : (g d e).or (g' d e) = some c := hg
  cases q : g d e with
  | some c' =>
    rw [q] at hg
    have hc : c' = c := by simpa using hg
    subst hc
    exact .inl (h Hs H x y d e c' Q ex rx ry q k)
  | none =>
    rw [q] at hg
    exact .inr (h' Hs H x y d e c Q ex rx ry (by simpa using hg) k)
def mBin (g : D → D → Option D) (ma mb : M D) : M D := mBind ma fun d => mBind mb fun e => mOpt (g d e)
theorem binS {r : R2} {g : D → D → Option D} (hr : OpS X.K r g) {σ : L2.St} {H : Hp} {Q : VK} (h : tOf X.K E ps (mBin g ma mb) σ H Q) : tOp r (tOf X.K E ps ma) (tOf X.K E ps mb) σ H Q := by
  obtain ⟨W, Hs, δ, hp, re, po⟩ := h
  refine tOf.step hp re po fun x d Hs1 H1 δ1 e1 re1 r1 po1 => ?_
  refine tOf.step hp re1 po1 fun y e Hs2 H2 δ2 e2 re2 r2 po2 => ?_
  obtain ⟨c, hc, po3⟩ := Post.opt po2
  exact hr Hs2 H2 x y d e c Q re2.ex (r1.ex e2) r2 hc fun v Hs' H' g rv => Post.grow po3 re2 g v rv
theorem je_bin {op : Operator} {r : R2} {g : D → D → Option D} (ho : OpR X (binaryOp op) r) (hr : OpS X.K r g) (ha : PE X a (tOf X.K E ps ma)) (hb : PE X b (tOf X.K E ps mb)) : PE X (.BinOp a op b pos) (tOf X.K E ps (mBin g ma mb)) :=
  pe_imp (pe_op ho ha hb) fun _ _ _ h => binS hr h
theorem je_cmp {op : CmpOp} {r : R2} {g : D → D → Option D} (ho : OpR X (compareOp op) r) (hr : OpS X.K r g) (ha : PE X a (tOf X.K E ps ma)) (hb : PE X b (tOf X.K E ps mb)) (hm : behindInMarks op b = false) : PE X (.Compare a [op] [b] pos) (tOf X.K E ps (mBin g ma mb)) :=
  pe_imp (pe_cmpR ho ha hb hm) fun _ _ _ h => binS hr h
def toB : D → Option Bool
  | .bool b => some b
  | _ => none
def mTest (m : M D) : M Bool := mBind m fun d => mOpt (toB d)
theorem testS {t : TE} {m : M D} (h : ∀ σ H Q, tOf X.K E ps m σ H Q → t σ H Q) {σ : L2.St} {H : Hp} {Q : Bool → Hp → Prop} (q : tOfT X.K E ps (mTest m) σ H Q) : tTest t σ H Q := by
  obtain ⟨W, Hs, δ, hp, re, po⟩ := q
  refine h _ _ _ (tOf.step hp re po fun x d Hs1 H1 δ1 e1 re1 r1 po1 => ?_)
  obtain ⟨c, hc, po3⟩ := Post.opt po1
  cases r1 <;> simp [toB] at hc
  subst hc
  exact ⟨_, rfl, Post.of po3 re1⟩
theorem jt_cmp {op : CmpOp} {r : R2} {g : D → D → Option D} (ho : OpR X (compareOp op) r) (hr : OpS X.K r g) (ha : PE X a (tOf X.K E ps ma)) (hb : PE X b (tOf X.K E ps mb)) (hm : behindInMarks op b = false) : PT X (.Compare a [op] [b] pos) (tOfT X.K E ps (mTest (mBin g ma mb))) :=
  pt_imp (pt_cmpR ho ha hb hm) fun _ _ _ h => testS (fun _ _ _ => binS hr) h
/-- an expression that is True or False, as a test -/
theorem jt_val {m : M D} (h : PE X e (tOf X.K E ps m)) (he : ∀ whole, isTrue e X.env whole = (do let v ← whole; standAt e.pos; holding [v] (truthy v)) := by intro _; rfl) : PT X e (tOfT X.K E ps (mTest m)) :=
  pt_imp (pt_val h he) fun _ _ _ q => testS (fun _ _ _ z => z) q
def mChain (g g' : D → D → Option D) (ma mb mc : M D) : M D := mBind ma fun d => mBind mb fun e => mBind (mOpt ((g d e).bind toB)) fun k => if k then mBind mc fun f => mOpt (g' e f) else mPure (.bool false)
variable {c : Expr} {mc : M D}
/-- comparisons that give truths and lay nothing -/
def OpB (K : Frag) (r : R2) (g : D → D → Option D) : Prop := ∀ Hs H x y d e k (Q : VK), Ex Hs H → Rp K Hs x d → Rp K Hs y e → (g d e).bind toB = some k → Q (.bl k) H → r x y H Q
theorem chainS {r r' : R2} {g g' : D → D → Option D} (hr : OpB X.K r g) (hr' : OpS X.K r' g') {σ : L2.St} {H : Hp} {Q : VK} (h : tOf X.K E ps (mChain g g' ma mb mc) σ H Q) : tChain r r' (tOf X.K E ps ma) (tOf X.K E ps mb) (tOf X.K E ps mc) σ H Q := by
  obtain ⟨W, Hs, δ, hp, re, po⟩ := h
  refine tOf.step hp re po fun x d Hs1 H1 δ1 e1 re1 r1 po1 => ?_
  refine tOf.step hp re1 po1 fun y e Hs2 H2 δ2 e2 re2 r2 po2 => ?_
  have q : ∃ k, (g d e).bind toB = some k ∧ Post X.K E W Hs2 σ ((if k then mBind mc fun f => mOpt (g' e f) else mPure (.bool false)) δ2) fun d Hs' H' _ => ∀ v, Rp X.K Hs' v d → Q v H' := by
    unfold mBind at po2
    unfold mOpt at po2
    cases z : (g d e).bind toB with
    | none => rw [z] at po2; exact po2.elim
    | some k => rw [z] at po2; exact ⟨k, rfl, po2⟩
  obtain ⟨k, hk, po3⟩ := q
  refine hr Hs2 H2 x y d e k _ re2.ex (r1.ex e2) r2 hk ⟨k, rfl, ?_⟩
  cases k with
  | true =>
    rw [if_pos rfl] at po3 ⊢
    refine tOf.step hp re2 po3 fun z f Hs3 H3 δ3 e3 re3 r3 po4 => ?_
    obtain ⟨c, hc, po5⟩ := Post.opt po4
    exact hr' Hs3 H3 y z e f c Q re3.ex (r2.ex e3) r3 hc fun v Hs' H' g rv => Post.grow po5 re3 g v rv
  | false =>
    rw [if_neg Bool.false_ne_true] at po3 ⊢
    exact Post.of po3 re2 _ (.bl false)
end
end Dn
namespace Dn
open PySem PySem.Spec PyProof.Rows L2
section
variable {X : Cx} {K : Frag}
/-- two lists that stand in the heap, put together -/
def rCatR (K : Frag) : R2 := fun x y H Q => ∃ (l b : Addr) (xs zs : List V), x = .ref l ∧ y = .ref b ∧ SqL K H l xs ∧ SqL K H b zs ∧ xs.length + zs.length ≤ sizeLine ∧ ∀ p, H p = none → Q (.ref p) (upd H p (.lst (xs ++ zs)))
theorem op_catR : OpR X (binaryOp .Add) (rCatR X.K) := by
  intro pins s σ H x y v u Q I rx ry h
  obtain ⟨l, b, xs, zs, e1, e2, hl, hb, hz, q⟩ := h
  subst e1; subst e2
  obtain rfl : v = Value.ref l := rx
  obtain rfl : u = Value.ref b := ry
  obtain ⟨its, r1, ⟨o1, n1, g1, c1, d1, t1⟩, _⟩ := I.list hl
  obtain ⟨jts, r2, ⟨o2, n2, g2, c2, d2, t2⟩, _⟩ := I.list hb
  cases o1
  cases o2
  simp only at c1 d1 t1 c2 d2 t2
  subst c1 d1 t1 c2 d2 t2
  have m1 := r1.length
  have m2 := r2.length
  have ea : its.toArray ++ jts.toArray = (its ++ jts).toArray := by simp
  refine concat_meets ⟨_, g1, rfl⟩ ⟨_, g2, rfl⟩ noFill_list_add seq_list_add PySem.F.slot_list_add PySem.F.entry_list_add
    (PySem.F.args_list_add_2 _ _) (PyProof.Rows.list_addW l b its.toArray jts.toArray _ _ _ _ _ _ (by simp only [List.size_toArray]; omega)) ⟨g1, g2, ?_⟩
  rw [ea]
  have hlen : (xs ++ zs).length ≤ sizeLine := by simp only [List.length_append]; omega
  exact ⟨.ref _, _, I.lnew (t' := s.toks) (r1.append r2) hlen, rfl, q _ I.fresh⟩
def rAddA (K : Frag) : R2 := fun x y H Q => (rI0 fun i j => .int (i + j)) x y H Q ∨ (∃ i j, x = .str i ∧ y = .str j ∧ i.length + j.length ≤ sizeLine ∧ Q (.str (i ++ j)) H) ∨ rCatA K x y H Q ∨ rCatR K x y H Q
theorem op_addA : OpR X (binaryOp .Add) (rAddA X.K) := op_add.or (op_add_str.or (op_catA.or op_catR))
def dAdd : D → D → Option D
  | .int i, .int j => some (.int (i + j))
  | .str x, .str y => if x.length + y.length ≤ sizeLine then some (.str (x ++ y)) else none
  | .tuple xs, .tuple ys => if xs.length + ys.length ≤ sizeLine then some (.tuple (xs ++ ys)) else none
  | .list xs, .list ys => if xs.length + ys.length ≤ sizeLine then some (.list (xs ++ ys)) else none
  | _, _ => none
theorem Rps.nil_iff {H : Hp} {vs : List V} {ds : List D} (h : Rps K H vs ds) : vs = [] ↔ ds = [] := by
  cases h <;> simp
theorem os_add : OpS K (rAddA K) dAdd := fun Hs H x y d e c Q ex rx ry hg k => by
  cases rx with
  | int i =>
    cases ry <;> simp [dAdd] at hg
    subst hg
    exact .inl ⟨i, _, rfl, rfl, k _ Hs H (.refl ex) (.int _)⟩
  | str a =>
    cases ry <;> simp [dAdd] at hg
    obtain ⟨hl, hg⟩ := hg
    subst hg
    exact .inr (.inl ⟨a, _, rfl, rfl, hl, k _ Hs H (.refl ex) (.str _)⟩)
  | tup h1 t1 =>
    cases ry with
    | tup h2 t2 =>
      simp [dAdd] at hg
      obtain ⟨hl, hg⟩ := hg
      subst hg
      refine .inr (.inr (.inl ⟨_, _, _, _, rfl, rfl, sqT_ex ex h1, sqT_ex ex h2, by rw [t1.length, t2.length]; exact hl, fun z => ?_, fun z1 z2 => ?_, fun z1 z2 p hp => ?_⟩))
      · have z' := t1.nil_iff.mp z
        subst z'
        exact k _ Hs H (.refl ex) (.tup h2 t2)
      · have z' := t2.nil_iff.mp z2
        subst z'
        exact k _ Hs H (.refl ex) (by rw [List.append_nil]; exact .tup h1 t1)
      · exact k _ _ _ (Gr.new ex hp) (.tup (StT.of upd_same) ((t1.append t2).ex (Gr.new ex hp).s))
    | _ => simp [dAdd] at hg
  | lst h1 t1 =>
    cases ry with
    | lst h2 t2 =>
      simp [dAdd] at hg
      obtain ⟨hl, hg⟩ := hg
      subst hg
      refine .inr (.inr (.inr ⟨_, _, _, _, rfl, rfl, sqL_ex ex h1, sqL_ex ex h2, by rw [t1.length, t2.length]; exact hl, fun p hp => ?_⟩))
      exact k _ _ _ (Gr.new ex hp) (.lst (SqL.of upd_same) ((t1.append t2).ex (Gr.new ex hp).s))
    | _ => simp [dAdd] at hg
  | _ => cases ry <;> simp [dAdd] at hg
/-- two ints -/
def dI (C : Int → Int → Bool) (f : Int → Int → Int) : D → D → Option D
  | .int i, .int j => if C i j then some (.int (f i j)) else none
  | _, _ => none
theorem os_I {P : Int → Int → Prop} {C : Int → Int → Bool} {f : Int → Int → Int} (hC : ∀ i j, C i j = true → P i j) : OpS K (rI P fun i j => .int (f i j)) (dI C f) := fun Hs H x y d e c Q ex rx ry hg k => by
  cases rx with
  | int i =>
    cases ry <;> simp [dI] at hg
    obtain ⟨hc, hg⟩ := hg
    subst hg
    exact ⟨i, _, rfl, rfl, hC _ _ hc, k _ Hs H (.refl ex) (.int _)⟩
  | _ => cases ry <;> simp [dI] at hg
theorem os_I0 {f : Int → Int → Int} : OpS K (rI0 fun i j => .int (f i j)) (dI (fun _ _ => true) f) := fun Hs H x y d e c Q ex rx ry hg k => by
  cases rx with
  | int i =>
    cases ry <;> simp [dI] at hg
    subst hg
    exact ⟨i, _, rfl, rfl, k _ Hs H (.refl ex) (.int _)⟩
  | _ => cases ry <;> simp [dI] at hg
abbrev dSub := dI (fun _ _ => true) (fun i j => i - j)
theorem os_sub : OpS K (rI0 fun i j => .int (i - j)) dSub := os_I0
abbrev dMod := dI (fun _ j => decide (0 < j)) (fun i j => i % j)
theorem os_mod : OpS K (rI (fun _ j => 0 < j) fun i j => .int (i % j)) dMod := os_I fun _ _ h => of_decide_eq_true h
abbrev dDiv := dI (fun _ j => decide (0 < j ∧ j < 4611686018427387904)) (fun i j => i / j)
theorem os_div : OpS K (rI CDivW fun i j => .int (i / j)) dDiv := os_I fun i j h => by
  obtain ⟨h1, h2⟩ := (of_decide_eq_true h : 0 < j ∧ j < 4611686018427387904)
  refine ⟨h1, Nat.lt_trans (Nat.log2_lt (by omega) |>.mpr (?_ : j.natAbs < 2 ^ 62)) (by decide)⟩
  omega
abbrev dPow := dI (fun i j => decide (0 ≤ j ∧ j ≤ 1000000 ∧ i.natAbs < 2 ^ 64)) (fun i j => i ^ j.toNat)
theorem os_pow : OpS K (rI CPow fun i j => .int (i ^ j.toNat)) dPow := os_I fun i j h => (of_decide_eq_true h : 0 ≤ j ∧ j ≤ 1000000 ∧ i.natAbs < 2 ^ 64)
theorem rep_size (a : Array Nat) : ∀ (n : Nat) (acc : Array Nat), ((List.replicate n a).foldl (· ++ ·) acc).size = acc.size + n * a.size
  | 0, acc => by simp
  | n + 1, acc => by
    rw [List.replicate_succ, List.foldl_cons, rep_size a n, Array.size_append, Nat.succ_mul]
    omega
/-- a text some times -/
def strRep (x : Str) (n : Int) : Str := if n < 1 then Str.empty else if (n == 1 || x.length == 0) = true then x else ⟨(List.replicate n.toNat x.cps).foldl (· ++ ·) #[]⟩
def rRepS : R2 := fun x y H Q => ∃ z n, x = .str z ∧ y = .int n ∧ (-1000000 ≤ n ∧ n ≤ 1000000 ∧ z.length ≤ 16) ∧ Q (.str (strRep z n)) H
theorem op_repS : OpR X (binaryOp .Mult) rRepS := by
  intro pins s σ H x y v u Q I rx ry h
  obtain ⟨z, n, e1, e2, ⟨h1, h2, h3⟩, q⟩ := h
  subst e1; subst e2
  obtain ⟨t, rfl⟩ := rx
  obtain ⟨t', rfl⟩ := ry
  have hz : z.length * n.toNat ≤ 16000000 := Nat.le_trans (Nat.mul_le_mul h3 (show n.toNat ≤ 1000000 by omega)) (by decide)
  refine PySem.P.mul_str ?_ (fun a b => ?_) (fun a b => ?_) ?_
  · rw [decide_eq_false (by omega), decide_eq_false (by omega)]; rfl
  · have hn : 1 ≤ n := by omega
    intro hc
    have : (16 : Int) ≤ (2 ^ 63 - 1) / n := by
      refine (Int.le_ediv_iff_mul_le (by omega)).mpr ?_
      omega
    omega
  · unfold Builtin.Str.tooLong
    have h16 : (16000000 : Nat) ≤ sizeLine := by decide
    simp
    omega
  · unfold strRep at q
    split
    · rename_i hn
      rw [if_pos hn] at q
      exact ⟨by decide, ⟨.str Str.empty, H, I.tok _, ⟨_, rfl⟩, q⟩⟩
    · rename_i hn
      rw [if_neg hn] at q
      split
      · rename_i hb
        rw [if_pos hb] at q
        exact ⟨.str z, H, I, ⟨_, rfl⟩, q⟩
      · rename_i hb
        rw [if_neg hb] at q
        refine ⟨?_, ⟨.str _, H, I.tok _, ⟨_, rfl⟩, q⟩⟩
        have h16 : (16000000 : Nat) ≤ sizeLine := by decide
        show (Array.size _) ≤ sizeLine
        rw [rep_size]
        have hm : n.toNat * z.cps.size ≤ 16000000 := by rw [Nat.mul_comm]; exact hz
        simp only [List.size_toArray, List.length_nil]
        omega
end
end Dn
namespace Dn
open PySem PySem.Spec PyProof.Rows L2
section
variable {X : Cx} {K : Frag}
def dMul : D → D → Option D
  | .int i, .int j => if (-(2 ^ 64) < i ∧ i < 2 ^ 64) ∨ (-(2 ^ 64) < j ∧ j < 2 ^ 64) then some (.int (i * j)) else none
  | .str x, .int n => if -1000000 ≤ n ∧ n ≤ 1000000 ∧ x.length ≤ 16 then some (.str (strRep x n)) else none
  | _, _ => none
def rMulA : R2 := fun x y H Q => (rI CMul fun i j => .int (i * j)) x y H Q ∨ rRepS x y H Q
theorem op_mulA : OpR X (binaryOp .Mult) rMulA := op_mul.or op_repS
theorem os_mul : OpS K rMulA dMul := fun Hs H x y d e c Q ex rx ry hg k => by
  cases rx with
  | int i =>
    cases ry <;> simp only [dMul, Option.ite_none_right_eq_some, Option.some.injEq, reduceCtorEq] at hg
    obtain ⟨hc, hg⟩ := hg
    subst hg
    exact .inl ⟨i, _, rfl, rfl, hc, k _ Hs H (.refl ex) (.int _)⟩
  | str z =>
    cases ry <;> simp only [dMul, Option.ite_none_right_eq_some, Option.some.injEq, reduceCtorEq] at hg
    obtain ⟨hc, hg⟩ := hg
    subst hg
    exact .inr ⟨z, _, rfl, rfl, hc, k _ Hs H (.refl ex) (.str _)⟩
  | _ => cases ry <;> simp [dMul] at hg
def dEqB : D → D → Option Bool
  | .str x, .str y => some (decide (x = y))
  | d, e => if SeqAt.shaped d = true ∧ SeqAt.shaped e = true then some (PyData.eqv d e) else none
def dEq (d e : D) : Option D := (dEqB d e).map PyData.bool
def dNe (d e : D) : Option D := (dEqB d e).map fun b => PyData.bool (!b)
def rEqA (K : Frag) (neg : Bool) : R2 := fun x y H Q => (∃ i j, x = .str i ∧ y = .str j ∧ Q (.bl (if neg then !decide (i = j) else decide (i = j))) H) ∨ ∃ d e, Dp K H x d ∧ Dp K H y e ∧ SeqAt.shaped d = true ∧ SeqAt.shaped e = true ∧ Q (.bl (if neg then !PyData.eqv d e else PyData.eqv d e)) H
theorem op_eqA (hu : X.A.units + 64 < cLine) : OpR X (compareOp .Eq) (rEqA X.K false) := by
  refine OpR.or (fun pins s σ H x y v u Q I rx ry h => ?_) (op_eqD hu)
  obtain ⟨i, j, e1, e2, q⟩ := h
  subst e1; subst e2
  refine op_eq pins s σ H _ _ v u Q I rx ry ⟨rfl, ?_⟩
  have e : decide (V.str i = V.str j) = decide (i = j) := by by_cases h : i = j <;> simp [h]
  rw [e]; exact q
theorem op_neA (hu : X.A.units + 64 < cLine) : OpR X (compareOp .NotEq) (rEqA X.K true) := by
  refine OpR.or (fun pins s σ H x y v u Q I rx ry h => ?_) (op_neD hu)
  obtain ⟨i, j, e1, e2, q⟩ := h
  subst e1; subst e2
  refine op_ne pins s σ H _ _ v u Q I rx ry ⟨rfl, ?_⟩
  have e : decide (V.str i = V.str j) = decide (i = j) := by by_cases h : i = j <;> simp [h]
  rw [e]; exact q
theorem eqS {neg : Bool} {Hs H : Hp} {x y : V} {d e : D} {b : Bool} {Q : VK} (ex : Ex Hs H) (rx : Rp K Hs x d) (ry : Rp K Hs y e) (hg : dEqB d e = some b) (q : Q (.bl (if neg then !b else b)) H) : rEqA K neg x y H Q := by
  have gen : (if SeqAt.shaped d = true ∧ SeqAt.shaped e = true then some (PyData.eqv d e) else none) = some b → rEqA K neg x y H Q := fun h => by
    simp only [Option.ite_none_right_eq_some, Option.some.injEq] at h
    obtain ⟨⟨h1, h2⟩, h⟩ := h
    exact .inr ⟨d, e, (rx.ex ex).dp, (ry.ex ex).dp, h1, h2, by rw [h]; exact q⟩
  by_cases hs : ∃ i j, d = .str i ∧ e = .str j
  · obtain ⟨i, j, e1, e2⟩ := hs
    subst e1; subst e2
    cases rx
    cases ry
    have hb : decide (i = j) = b := Option.some.inj hg
    exact .inl ⟨i, j, rfl, rfl, by rw [hb]; exact q⟩
  · refine gen ?_
    rw [← hg]
    cases d <;> first | rfl | (cases e <;> first | rfl | exact absurd ⟨_, _, rfl, rfl⟩ hs)
theorem os_eq : OpS K (rEqA K false) dEq := fun Hs H x y d e c Q ex rx ry hg k => by
  unfold dEq at hg
  cases h : dEqB d e with
  | none => rw [h] at hg; simp at hg
  | some b =>
    rw [h] at hg
    have hc : PyData.bool b = c := by simpa using hg
    subst hc
    exact eqS ex rx ry h (k _ Hs H (.refl ex) (.bl _))
theorem os_ne : OpS K (rEqA K true) dNe := fun Hs H x y d e c Q ex rx ry hg k => by
  unfold dNe at hg
  cases h : dEqB d e with
  | none => rw [h] at hg; simp at hg
  | some b =>
    rw [h] at hg
    have hc : PyData.bool (!b) = c := by simpa using hg
    subst hc
    exact eqS ex rx ry h (k _ Hs H (.refl ex) (.bl _))
/-- order: ints, texts -/
def dOrd (f : Int → Int → Bool) (g : Str → Str → Bool) : D → D → Option D
  | .int i, .int j => some (.bool (f i j))
  | .str x, .str y => some (.bool (g x y))
  | _, _ => none
def rOrd (f : Int → Int → Bool) (g : Str → Str → Bool) : R2 := fun x y H Q => (rI0 fun i j => .bl (f i j)) x y H Q ∨ (∃ i j, x = .str i ∧ y = .str j ∧ Q (.bl (g i j)) H)
theorem os_ord {f : Int → Int → Bool} {g : Str → Str → Bool} : OpS K (rOrd f g) (dOrd f g) := fun Hs H x y d e c Q ex rx ry hg k => by
  cases rx with
  | int i =>
    cases ry <;> simp [dOrd] at hg
    subst hg
    exact .inl ⟨i, _, rfl, rfl, k _ Hs H (.refl ex) (.bl _)⟩
  | str z =>
    cases ry <;> simp [dOrd] at hg
    subst hg
    exact .inr ⟨z, _, rfl, rfl, k _ Hs H (.refl ex) (.bl _)⟩
  | _ => cases ry <;> simp [dOrd] at hg
theorem ob_ord {f : Int → Int → Bool} {g : Str → Str → Bool} : OpB K (rOrd f g) (dOrd f g) := fun Hs H x y d e k Q ex rx ry hg q => by
  cases rx with
  | int i =>
    cases ry <;> simp [dOrd, toB] at hg
    subst hg
    exact .inl ⟨i, _, rfl, rfl, q⟩
  | str z =>
    cases ry <;> simp [dOrd, toB] at hg
    subst hg
    exact .inr ⟨z, _, rfl, rfl, q⟩
  | _ => cases ry <;> simp [dOrd] at hg
abbrev dLt := dOrd (fun i j => decide (i < j)) (fun x y => decide (x.cps.toList < y.cps.toList))
abbrev dLe := dOrd (fun i j => decide (i ≤ j)) (fun x y => !decide (y.cps.toList < x.cps.toList))
abbrev dGt := dOrd (fun i j => decide (j < i)) (fun x y => decide (y.cps.toList < x.cps.toList))
abbrev dGe := dOrd (fun i j => decide (j ≤ i)) (fun x y => !decide (x.cps.toList < y.cps.toList))
theorem op_ltA : OpR X (compareOp .Lt) (rOrd (fun i j => decide (i < j)) (fun x y => decide (x.cps.toList < y.cps.toList))) := op_lt.or op_lt_str
theorem op_leA : OpR X (compareOp .LtE) (rOrd (fun i j => decide (i ≤ j)) (fun x y => !decide (y.cps.toList < x.cps.toList))) := op_le.or op_le_str
theorem op_gtA : OpR X (compareOp .Gt) (rOrd (fun i j => decide (j < i)) (fun x y => decide (y.cps.toList < x.cps.toList))) := op_gt.or op_gt_str
theorem op_geA : OpR X (compareOp .GtE) (rOrd (fun i j => decide (j ≤ i)) (fun x y => !decide (x.cps.toList < y.cps.toList))) := op_ge.or op_ge_str
def flatD : D → Bool
  | .none => true
  | .bool _ => true
  | .int _ => true
  | .str _ => true
  | _ => false
theorem flat_v {H : Hp} {v : V} {d : D} (r : Rp K H v d) (h : flatD d = true) : flatV v = true := by
  cases r <;> first | rfl | exact absurd h (by simp [flatD])
theorem flat_vs {H : Hp} : ∀ {vs : List V} {ds : List D}, Rps K H vs ds → ds.all flatD = true → vs.all flatV = true
  | _, _, .nil, _ => rfl
  | _, _, .cons r t, h => by
    rw [List.all_cons, Bool.and_eq_true] at h ⊢
    exact ⟨flat_v r h.1, flat_vs t h.2⟩
theorem eqv_v {H : Hp} {v w : V} {d e : D} (r : Rp K H v d) (q : Rp K H w e) (h : flatD d = true) (h' : flatD e = true) : eqV v w = PyData.eqv d e := by
  cases r <;> cases q <;> first | (simp [flatD] at h; done) | (simp [flatD] at h'; done) | (simp [eqV, PyData.eqv])
def inD (d : D) (ds : List D) : Bool := ds.any fun z => PyData.eqv z d
theorem in_v {H : Hp} {v : V} {d : D} (r : Rp K H v d) (h : flatD d = true) : ∀ {vs : List V} {ds : List D}, Rps K H vs ds → ds.all flatD = true → inV v vs = inD d ds
  | _, _, .nil, _ => rfl
  | _, _, .cons q t, h' => by
    rw [List.all_cons, Bool.and_eq_true] at h'
    have ih := in_v r h t h'.2
    unfold inV inD at ih ⊢
    rw [List.any_cons, List.any_cons, eqv_v q r h'.1 h, ih]
/-- a text in a text -/
def strIn (x y : Str) : Bool := match x.cps.toList with
  | [c] => decide (c ∈ y.cps.toList)
  | _ => !(Builtin.Str.occurrences y x 0 y.length 1).isEmpty
def dInB : D → D → Option Bool
  | .str x, .str y => some (strIn x y)
  | d, .list ds => if flatD d = true ∧ ds.all flatD = true then some (inD d ds) else none
  | d, .tuple ds => if flatD d = true ∧ ds.all flatD = true then some (inD d ds) else none
  | _, _ => none
def dIn (d e : D) : Option D := (dInB d e).map PyData.bool
def dNotIn (d e : D) : Option D := (dInB d e).map fun b => PyData.bool (!b)
def rInA (K : Frag) (neg : Bool) : R2 := fun x y H Q => rIn K neg x y H Q ∨ (∃ (c : Nat) (z : Str), x = .str ⟨#[c]⟩ ∧ y = .str z ∧ Q (.bl (if neg then !decide (c ∈ z.cps.toList) else decide (c ∈ z.cps.toList))) H) ∨
  (∃ i j, x = .str i ∧ y = .str j ∧ Q (.bl (if neg then !(!(Builtin.Str.occurrences j i 0 j.length 1).isEmpty) else !(Builtin.Str.occurrences j i 0 j.length 1).isEmpty)) H)
theorem op_inA : OpR X (compareOp .In) (rInA X.K false) := op_in_seq.or (op_in_sign.or op_in_str)
theorem strIn_one {x y : Str} {c : Nat} (h : x = ⟨#[c]⟩) : strIn x y = decide (c ∈ y.cps.toList) := by subst h; rfl
theorem inS {neg : Bool} {Hs H : Hp} {x y : V} {d e : D} {b : Bool} {Q : VK} (ex : Ex Hs H) (rx : Rp K Hs x d) (ry : Rp K Hs y e) (hg : dInB d e = some b) (q : Q (.bl (if neg then !b else b)) H) : rInA K neg x y H Q := by
  have seq : ∀ {p : Addr} {vs : List V} {ds : List D}, y = .ref p → (SqL K H p vs ∨ SqT K H p vs) → Rps K Hs vs ds → (if flatD d = true ∧ ds.all flatD = true then some (inD d ds) else none) = some b → rInA K neg x y H Q := fun {p vs ds} ey hs t h => by
    simp only [Option.ite_none_right_eq_some, Option.some.injEq] at h
    obtain ⟨⟨h1, h2⟩, h⟩ := h
    refine .inl ⟨p, vs, ey, hs, flat_v rx h1, flat_vs t h2, ?_⟩
    rw [in_v rx h1 t h2, h]
    exact q
  cases ry with
  | str z =>
    cases rx with
    | str x =>
      have hb : strIn x z = b := Option.some.inj hg
      by_cases hx : ∃ c, x = ⟨#[c]⟩
      · obtain ⟨c, hc⟩ := hx
        rw [strIn_one hc] at hb
        exact .inr (.inl ⟨c, z, by rw [hc], rfl, by rw [hb]; exact q⟩)
      · refine .inr (.inr ⟨x, z, rfl, rfl, ?_⟩)
        have hb' : (!(Builtin.Str.occurrences z x 0 z.length 1).isEmpty) = b := by
          rw [← hb]
          unfold strIn
          split
          · rename_i c hc
            refine absurd ⟨c, ?_⟩ hx
            cases x with
            | mk cps =>
              have : cps = #[c] := by rw [← Array.toList_inj]; exact hc
              rw [this]
          · rfl
        rw [hb']
        exact q
    | _ => simp [dInB] at hg
  | lst h1 t1 => exact seq rfl (.inl (sqL_ex ex h1)) t1 (by cases rx <;> simpa [dInB] using hg)
  | tup h1 t1 => exact seq rfl (.inr (sqT_ex ex h1)) t1 (by cases rx <;> simpa [dInB] using hg)
  | _ => cases rx <;> simp [dInB] at hg
theorem os_in : OpS K (rInA K false) dIn := fun Hs H x y d e c Q ex rx ry hg k => by
  unfold dIn at hg
  cases h : dInB d e with
  | none => rw [h] at hg; simp at hg
  | some b =>
    rw [h] at hg
    have hc : PyData.bool b = c := by simpa using hg
    subst hc
    exact inS ex rx ry h (k _ Hs H (.refl ex) (.bl _))
@[reducible] def isN : D → Bool
  | .none => true
  | _ => false
def dIsB : D → D → Option Bool
  | .bool a, .bool b => some (decide (a = b))
  | d, .none => some (isN d)
  | _, _ => none
def dIs (d e : D) : Option D := (dIsB d e).map PyData.bool
def dIsNot (d e : D) : Option D := (dIsB d e).map fun b => PyData.bool (!b)
def rIs (neg : Bool) : R2 := fun x y H Q => (y = .non ∧ Q (.bl (if neg then !decide (x = .non) else decide (x = .non))) H) ∨ ∃ a b, x = .bl a ∧ y = .bl b ∧ Q (.bl (if neg then !decide (a = b) else decide (a = b))) H
theorem op_isA : OpR X (compareOp .Is) (rIs false) := op_isN.or op_is_bl
theorem op_isNotA : OpR X (compareOp .IsNot) (rIs true) := op_notN.or op_isnot_bl
theorem isN_v {H : Hp} {v : V} {d : D} (r : Rp K H v d) : decide (v = .non) = isN d := by
  cases r <;> simp [isN]
theorem isS {neg : Bool} {Hs H : Hp} {x y : V} {d e : D} {b : Bool} {Q : VK} (rx : Rp K Hs x d) (ry : Rp K Hs y e) (hg : dIsB d e = some b) (q : Q (.bl (if neg then !b else b)) H) : rIs neg x y H Q := by
  cases ry with
  | non =>
    have hb : isN d = b := by cases rx <;> simpa [dIsB] using hg
    refine .inl ⟨rfl, ?_⟩
    rw [isN_v rx, hb]
    exact q
  | bl z =>
    cases rx with
    | bl a =>
      have hb : decide (a = z) = b := Option.some.inj hg
      refine .inr ⟨a, z, rfl, rfl, ?_⟩
      rw [hb]
      exact q
    | _ => simp [dIsB] at hg
  | _ => cases rx <;> simp [dIsB] at hg
theorem os_is : OpS K (rIs false) dIs := fun Hs H x y d e c Q ex rx ry hg k => by
  unfold dIs at hg
  cases h : dIsB d e with
  | none => rw [h] at hg; simp at hg
  | some b =>
    rw [h] at hg
    have hc : PyData.bool b = c := by simpa using hg
    subst hc
    exact isS rx ry h (k _ Hs H (.refl ex) (.bl _))
theorem os_isNot : OpS K (rIs true) dIsNot := fun Hs H x y d e c Q ex rx ry hg k => by
  unfold dIsNot at hg
  cases h : dIsB d e with
  | none => rw [h] at hg; simp at hg
  | some b =>
    rw [h] at hg
    have hc : PyData.bool (!b) = c := by simpa using hg
    subst hc
    exact isS rx ry h (k _ Hs H (.refl ex) (.bl _))
def dIx : D → D → Option D
  | .list xs, .int i => atI xs i
  | .tuple xs, .int i => atI xs i
  | .str z, .int i => if z.length ≤ sizeLine then (atI z.cps.toList i).map fun c => .str ⟨#[c]⟩ else none
  | _, _ => none
theorem atI_rps {H : Hp} {vs : List V} {ds : List D} {i : Int} {d : D} (t : Rps K H vs ds) (h : atI ds i = some d) : ∃ v, atI vs i = some v ∧ Rp K H v d := by
  unfold atI at h ⊢
  rw [t.length]
  cases q : ixN ds.length i with
  | none => rw [q] at h; simp at h
  | some j =>
    rw [q] at h
    simp only [Option.bind_some] at h ⊢
    exact t.get h
theorem os_ix : OpS K (rIx K) dIx := fun Hs H x y d e c Q ex rx ry hg k => by
  cases ry with
  | int i =>
    cases rx with
    | lst h t =>
      obtain ⟨v, h1, h2⟩ := atI_rps t hg
      exact .inl ⟨_, _, i, v, rfl, rfl, sqL_ex ex h, h1, k v Hs H (.refl ex) h2⟩
    | tup h t =>
      obtain ⟨v, h1, h2⟩ := atI_rps t hg
      exact .inr (.inl ⟨_, _, i, v, rfl, rfl, sqT_ex ex h, h1, k v Hs H (.refl ex) h2⟩)
    | str z =>
      simp only [dIx, Option.ite_none_right_eq_some, Option.map_eq_some_iff] at hg
      obtain ⟨hl, a, ha, hg⟩ := hg
      subst hg
      exact .inr (.inr ⟨z, i, a, rfl, rfl, hl, ha, k _ Hs H (.refl ex) (.str _)⟩)
    | _ => simp [dIx] at hg
  | _ => cases rx <;> simp [dIx] at hg
def cutD (xs : List D) (lo hi : Option Int) : List D := (xs.drop (HT.sIx xs.length 0 lo)).take (HT.sIx xs.length xs.length hi - HT.sIx xs.length 0 lo)
def dSl (d : D) (lo hi : Option Int) : Option D := match d with
  | .str z => if z.length ≤ sizeLine then some (.str (cutS z lo hi)) else none
  | .tuple xs => some (.tuple (cutD xs lo hi))
  | .list xs => some (.list (cutD xs lo hi))
  | _ => none
theorem cut_rps {H : Hp} {vs : List V} {ds : List D} {lo hi : Option Int} (t : Rps K H vs ds) : Rps K H (cutV vs lo hi) (cutD ds lo hi) := by
  unfold cutV cutD
  rw [t.length]
  exact (t.drop _).take _
def rSlZ (K : Frag) : V → Option Int → Option Int → Hp → VK → Prop := fun x lo hi H Q => rSlS x lo hi H Q ∨ rSlA K x lo hi H Q ∨ rSlL K x lo hi H Q
theorem sl_Z : SlR X (rSlZ X.K) := sl_str.or (sl_tupA.or sl_list)
theorem sl_whole {xs : List D} {lo hi : Option Int} (h : HT.sIx xs.length 0 lo = 0 ∧ HT.sIx xs.length xs.length hi = xs.length) : cutD xs lo hi = xs := by
  unfold cutD
  rw [h.1, h.2]
  simp
theorem slS {Hs H : Hp} {x : V} {d c : D} {lo hi : Option Int} {Q : VK} (ex : Ex Hs H) (rx : Rp K Hs x d) (hg : dSl d lo hi = some c) (k : ∀ v Hs' H', Gr Hs H Hs' H' → Rp K Hs' v c → Q v H') : rSlZ K x lo hi H Q := by
  cases rx with
  | str z =>
    simp only [dSl, Option.ite_none_right_eq_some, Option.some.injEq] at hg
    obtain ⟨hl, hg⟩ := hg
    subst hg
    exact .inl ⟨z, rfl, hl, k _ Hs H (.refl ex) (.str _)⟩
  | tup h t =>
    obtain rfl := Option.some.inj hg
    refine .inr (.inl ⟨_, _, rfl, sqT_ex ex h, fun z => ?_, fun z p hp => ?_⟩)
    · rw [t.length] at z
      rw [sl_whole z] at k
      exact k _ Hs H (.refl ex) (.tup h t)
    · exact k _ _ _ (Gr.new ex hp) (.tup (StT.of upd_same) ((cut_rps t).ex (Gr.new ex hp).s))
  | lst h t =>
    obtain rfl := Option.some.inj hg
    refine .inr (.inr ⟨_, _, rfl, sqL_ex ex h, fun p hp => ?_⟩)
    exact k _ _ _ (Gr.new ex hp) (.lst (SqL.of upd_same) ((cut_rps t).ex (Gr.new ex hp).s))
  | _ => simp [dSl] at hg
end
section
variable {X : Cx} {E : XQ} {ps : List Nat} {a b e : Expr} {pos : Pos} {ma mb m : M D}
theorem je_ix (ha : PE X a (tOf X.K E ps ma)) (hb : PE X b (tOf X.K E ps mb)) (hs : PlainIx b) : PE X (.Subscript a b pos) (tOf X.K E ps (mBin dIx ma mb)) :=
  pe_imp (pe_ix ix_seq ha hb hs) fun _ _ _ h => binS os_ix h
/-- a part of a slice -/
def tOfP (K : Frag) (E : XQ) (ps : List Nat) (m : M (Option Int)) : TO := fun σ H Q => Cf K E ps m σ H fun _ o _ H' _ => Q o H'
def toI : D → Option (Option Int)
  | .int i => some (some i)
  | _ => none
def mPart (m : M D) : M (Option Int) := mBind m fun d => mOpt (toI d)
def mNoPart : M (Option Int) := mPure none
theorem jp_none : PO X none (tOfP X.K E ps mNoPart) := ⟨fun pins s σ H Q I ⟨W, Hs, δ, hp, re, po⟩ => po_none.run pins s σ H Q I (Post.of po re)⟩
theorem jp_some (h : PE X e (tOf X.K E ps m)) : PO X (some e) (tOfP X.K E ps (mPart m)) := ⟨fun pins s σ H Q I ⟨W, Hs, δ, hp, re, po⟩ => (po_some h).run pins s σ H Q I (by
  refine tOf.step hp re po fun x d Hs1 H1 δ1 e1 re1 r1 po1 => ?_
  obtain ⟨c, hc, po3⟩ := Post.opt po1
  cases r1 <;> simp [toI] at hc
  subst hc
  exact ⟨_, rfl, Post.of po3 re1⟩)⟩
def mSl (m : M D) (ml mh : M (Option Int)) : M D := mBind m fun d => mBind ml fun l => mBind mh fun h => mOpt (dSl d l h)
theorem je_slice {lo hi : Option Expr} {ml mh : M (Option Int)} {p2 : Pos} (he : PE X e (tOf X.K E ps m)) (hl : PO X lo (tOfP X.K E ps ml)) (hu : PO X hi (tOfP X.K E ps mh)) : PE X (.Subscript e (.Slice lo hi none p2) pos) (tOf X.K E ps (mSl m ml mh)) :=
  pe_imp (pe_slice sl_Z he hl hu) fun σ H Q ⟨W, Hs, δ, hp, re, po⟩ => by
    refine tOf.step hp re po fun x d Hs1 H1 δ1 e1 re1 r1 po1 => ?_
    refine Cf.step hp re1 po1 fun l Hs2 H2 δ2 e2 re2 po2 => ?_
    refine Cf.step hp re2 po2 fun u Hs3 H3 δ3 e3 re3 po3 => ?_
    obtain ⟨c, hc, po4⟩ := Post.opt po3
    exact slS re3.ex ((r1.ex e2).ex e3) hc fun v Hs' H' g rv => Post.grow po4 re3 g v rv
variable {t1 t2 : M Bool} {rest : List Expr}
def mAndT (t1 t2 : M Bool) : M Bool := mBind t1 fun b => if b then t2 else mPure false
def mOrT (t1 t2 : M Bool) : M Bool := mBind t1 fun b => if b then mPure true else t2
def mNotT (t : M Bool) : M Bool := mBind t fun b => mPure (!b)
theorem jt_not (h : PT X a (tOfT X.K E ps t1)) : PT X (.UnaryOp .Not a pos) (tOfT X.K E ps (mNotT t1)) :=
  pt_imp (pt_not h) fun σ H Q ⟨W, Hs, δ, hp, re, po⟩ => tOfT.step hp re po fun b Hs1 H1 δ1 e1 re1 po1 => Post.of po1 re1
theorem jw_and1 (h : PT X a (tOfT X.K E ps t1)) : PW X (.BoolOp .And [a] pos) (tOfT X.K E ps t1) := pw_and1 h
theorem jw_or1 (h : PT X a (tOfT X.K E ps t1)) : PW X (.BoolOp .Or [a] pos) (tOfT X.K E ps t1) := pw_or1 h
theorem jw_and (h : PT X a (tOfT X.K E ps t1)) (h2 : PW X (.BoolOp .And (b :: rest) pos) (tOfT X.K E ps t2)) : PW X (.BoolOp .And (a :: b :: rest) pos) (tOfT X.K E ps (mAndT t1 t2)) :=
  pw_imp (pw_and h h2) fun σ H Q ⟨W, Hs, δ, hp, re, po⟩ => tOfT.step hp re po fun b Hs1 H1 δ1 e1 re1 po1 => by
    cases b with
    | true => exact Cf.last hp re1 po1
    | false => exact Post.of po1 re1
theorem jw_or (h : PT X a (tOfT X.K E ps t1)) (h2 : PW X (.BoolOp .Or (b :: rest) pos) (tOfT X.K E ps t2)) : PW X (.BoolOp .Or (a :: b :: rest) pos) (tOfT X.K E ps (mOrT t1 t2)) :=
  pw_imp (pw_or h h2) fun σ H Q ⟨W, Hs, δ, hp, re, po⟩ => tOfT.step hp re po fun b Hs1 H1 δ1 e1 re1 po1 => by
    cases b with
    | true => exact Post.of po1 re1
    | false => exact Cf.last hp re1 po1
/-- .. as values, all True or False but the last -/
def mAndV (m1 m2 : M D) : M D := mBind (mTest m1) fun b => if b then m2 else mPure (.bool false)
def mOrV (m1 m2 : M D) : M D := mBind (mTest m1) fun b => if b then mPure (.bool true) else m2
def mNotV (m : M D) : M D := mBind (mTest m) fun b => mPure (.bool (!b))
theorem testV {W : Wd} {Hs H : Hp} {σ : L2.St} {δ : Env} {β : Type} {f : Bool → M β} {QQ : β → Hp → Hp → Env → Prop} {K : Frag} {R : V → Hp → Prop} (hp : W.pn.map (·.1) = ps) (re : RE K W Hs H σ δ) (po : Post K E W Hs σ (mBind (mTest m) f δ) QQ)
    (k : ∀ b Hs1 H1 δ1, Ex Hs Hs1 → RE K W Hs1 H1 σ δ1 → Post K E W Hs1 σ (f b δ1) QQ → R (.bl b) H1) : tOf K E ps m σ H R := by
  have po' : Post K E W Hs σ (mBind m (fun d => mBind (mOpt (toB d)) f) δ) QQ := by
    have e : mBind (mTest m) f δ = mBind m (fun d => mBind (mOpt (toB d)) f) δ := by
      unfold mTest mBind
      cases m δ <;> rfl
    rw [← e]; exact po
  refine tOf.step hp re po' fun x d Hs1 H1 δ1 e1 re1 r1 po1 => ?_
  cases r1 with
  | bl b => exact k b Hs1 H1 δ1 e1 re1 po1
  | _ => exact po1.elim
theorem je_and (h : PE X a (tOf X.K E ps ma)) (h2 : PE X (.BoolOp .And (b :: rest) pos) (tOf X.K E ps mb)) : PE X (.BoolOp .And (a :: b :: rest) pos) (tOf X.K E ps (mAndV ma mb)) :=
  pe_imp (pe_and h h2) fun σ H Q ⟨W, Hs, δ, hp, re, po⟩ => testV hp re po fun b Hs1 H1 δ1 e1 re1 po1 => ⟨b, rfl, by
    cases b with
    | true => exact Cf.last hp re1 po1
    | false => exact Post.of po1 re1 _ (.bl false)⟩
theorem je_or (h : PE X a (tOf X.K E ps ma)) (h2 : PE X (.BoolOp .Or (b :: rest) pos) (tOf X.K E ps mb)) : PE X (.BoolOp .Or (a :: b :: rest) pos) (tOf X.K E ps (mOrV ma mb)) :=
  pe_imp (pe_or h h2) fun σ H Q ⟨W, Hs, δ, hp, re, po⟩ => testV hp re po fun b Hs1 H1 δ1 e1 re1 po1 => ⟨b, rfl, by
    cases b with
    | true => exact Post.of po1 re1 _ (.bl true)
    | false => exact Cf.last hp re1 po1⟩
theorem je_one {op : BoolOp} (h : PE X a (tOf X.K E ps ma)) : PE X (.BoolOp op [a] pos) (tOf X.K E ps ma) := pe_one h
theorem je_not (h : PE X a (tOf X.K E ps ma)) : PE X (.UnaryOp .Not a pos) (tOf X.K E ps (mNotV ma)) :=
  pe_imp (pe_not h) fun σ H Q ⟨W, Hs, δ, hp, re, po⟩ => testV hp re po fun b Hs1 H1 δ1 e1 re1 po1 => ⟨b, rfl, Post.of po1 re1 _ (.bl _)⟩
def mIfE (t : M Bool) (m1 m2 : M D) : M D := mBind t fun b => if b then m1 else m2
/-- -n -/
def dNeg : D → Option D
  | .int i => some (.int (-i))
  | _ => none
def mNeg (m : M D) : M D := mBind m fun d => mOpt (dNeg d)
theorem je_neg (h : PE X a (tOf X.K E ps ma)) : PE X (.UnaryOp .USub a pos) (tOf X.K E ps (mNeg ma)) :=
  pe_imp (pe_un un_neg h) fun σ H Q ⟨W, Hs, δ, hp, re, po⟩ => tOf.step hp re po fun x d Hs1 H1 δ1 e1 re1 r1 po1 => by
    obtain ⟨c, hc, po3⟩ := Post.opt po1
    cases r1 <;> simp [dNeg] at hc
    subst hc
    exact ⟨_, rfl, Post.of po3 re1 _ (.int _)⟩
variable {c : Expr} {mc : M D}
theorem je_chain {op op' : CmpOp} {r r' : R2} {g g' : D → D → Option D} (ho : OpR X (compareOp op) r) (ho' : OpR X (compareOp op') r') (hr : OpB X.K r g) (hr' : OpS X.K r' g') (ha : PE X a (tOf X.K E ps ma)) (hb : PE X b (tOf X.K E ps mb)) (hc : PE X c (tOf X.K E ps mc))
    (hm : lastMarks [op, op'] [b, c] = false := by with_unfolding_all rfl) : PE X (.Compare a [op, op'] [b, c] pos) (tOf X.K E ps (mChain g g' ma mb mc)) :=
  pe_imp (pe_chain ho ho' ha hb hc hm) fun _ _ _ h => chainS hr hr' h
end
end Dn
namespace Dn
open PySem PySem.Spec PyProof.Rows L2
inductive AM where
  | e (m : M D)
  | o (i : Nat)
def mOwn (i : Nat) : M (List D) := fun δ => match δ[i]? with
  | some (.ow xs) => .ok xs δ
  | _ => .bad
def evA : List AM → M (List Ag)
  | [] => mPure []
  | .e m :: as => mBind m fun d => mBind (evA as) fun gs => mPure (.sh d :: gs)
  | .o i :: as => mBind (mOwn i) fun _ => mBind (evA as) fun gs => mPure (.ow i :: gs)
def shs : List Ag → Option (List D)
  | [] => some []
  | .sh d :: gs => (shs gs).map (d :: ·)
  | .ow _ :: _ => none
section
variable {K : Frag} {W : Wd} {Hs H H' : Hp} {σ : L2.St} {δ : Env} {E : XQ} {ps : List Nat}
theorem shs_rps : ∀ {vs : List V} {gs : List Ag} {ds : List D}, AgR K Hs σ vs gs → shs gs = some ds → Rps K Hs vs ds
  | [], [], ds, _, h => by obtain rfl := Option.some.inj h; exact .nil
  | [], _ :: _, _, h, _ => h.elim
  | _ :: _, [], _, h, _ => h.elim
  | v :: vs, .sh d :: gs, ds, h, q => by
    unfold shs at q
    cases z : shs gs with
    | none => rw [z] at q; simp at q
    | some es =>
      rw [z] at q
      have e : d :: es = ds := by simpa using q
      subst e
      exact .cons h.1 (shs_rps h.2 z)
  | _ :: _, .ow _ :: _, _, _, q => by simp [shs] at q
/-- new things that no name reaches -/
theorem RE.newH (r : RE K W Hs H σ δ) (e : Ex H H') : RE K W Hs H' σ δ :=
  r.grow ⟨Ex.refl _, e, r.ex.trans e, fun _ _ => rfl⟩
/-- a fresh list becomes shared data -/
theorem RE.freeze {a : Addr} {xs : List D} (r : RE K W Hs H σ δ) (f : FrO K W Hs H σ δ a xs) : ∃ Hs', Ex Hs Hs' ∧ RE K W Hs' H σ δ ∧ Rp K Hs' (.ref a) (.list xs) := by
  obtain ⟨vs, h1, h2⟩ := f.at_
  have e : Ex Hs (upd Hs a (.lst vs)) := ex_new f.hs
  refine ⟨upd Hs a (.lst vs), e, ?_, .lst (SqL.of upd_same) (h2.ex e)⟩
  exact {
    ex := fun b o q => by
      by_cases hb : b = a
      · subst hb; rw [upd_same] at q; cases q; exact h1
      · rw [upd_ne hb] at q; exact r.ex b o q
    fg := fun b o q => by
      have hb : b ≠ a := fun z => by rw [z, f.g] at q; cases q
      rw [upd_ne hb]; exact r.fg b o q
    len := r.len
    sh := fun i d q => by
      obtain ⟨v, q1, q2⟩ := r.sh i d q
      exact ⟨v, q1, q2.ex e⟩
    ow := fun i s q w => by
      obtain ⟨b, o, q1, q2, q3, q4, q5⟩ := r.ow i s q w
      have hb : b ≠ a := fun z => f.ne i s q w (z ▸ q1)
      exact ⟨b, o, q1, q2, q3.ex e, by rw [upd_ne hb]; exact q4, q5⟩
    ap := r.ap
    pin := r.pin }
end
section
variable {X : Cx} {E : XQ} {ps : List Nat} {a b e o : Expr} {es : List Expr} {pos : Pos} {ma mb m : M D} {as : List AM}
theorem ja_nil : PA X [] (tOfA X.K E ps (evA [])) := pa_imp pa_nil fun σ H Q ⟨W, Hs, δ, hp, re, po⟩ => Post.of po re [] trivial
def CallS (K : Frag) (r : List V → Hp → VK → Prop) (g : List D → Option D) : Prop := ∀ Hs H vs ds c (Q : VK), Ex Hs H → Rps K Hs vs ds → g ds = some c → (∀ v Hs' H', Gr Hs H Hs' H' → Rp K Hs' v c → Q v H') → r vs H Q
def mCallB (g : List D → Option D) (as : List AM) : M D := mBind (evA as) fun gs => mOpt ((shs gs).bind g)
theorem callS {r : List V → Hp → VK → Prop} {g : List D → Option D} (hr : CallS X.K r g) {σ : L2.St} {H : Hp} {Q : VK} (h : tOf X.K E ps (mCallB g as) σ H Q) : tCB r (tOfA X.K E ps (evA as)) σ H Q := by
  obtain ⟨W, Hs, δ, hp, re, po⟩ := h
  refine tOfA.step hp re po fun vs gs Hs1 H1 δ1 e1 re1 r1 po1 => ?_
  obtain ⟨c, hc, po2⟩ := Post.opt po1
  obtain ⟨ds, h1, h2⟩ := Option.bind_eq_some_iff.mp hc
  exact hr Hs1 H1 vs ds c Q re1.ex (shs_rps r1 h1) h2 fun v Hs' H' g rv => Post.grow po2 re1 g v rv
theorem je_callB {x : Str} {p : Pos} {id : String} {r : List V → Hp → VK → Prop} {g : List D → Option D} (hc : CallR X (.builtin id) r) (hr : CallS X.K r g) (hg : Gl X x) (hm : X.mg x = none) (hv : bootBuiltins x = some (.builtin id)) (ha : PA X (e :: es) (tOfA X.K E ps (evA as))) (hn : x ≠ "__name__" := by decide) (hdb : (x == ("__debug__" : Str)) = false := by decide)
    (he : starEach (e :: es) X.env = (false, eval e X.env) :: starEach es X.env := by rfl) (hpl : (backTo pos (starEach es X.env)).any (·.1) = false := by rfl) : PE X (.Call (.Name x p) (e :: es) [] pos) (tOf X.K E ps (mCallB g as)) :=
  pe_imp (pe_callB hc hg hm hv ha hn hdb he hpl) fun _ _ _ h => callS hr h
theorem je_callTy {x : Str} {p : Pos} {T : String} {r : List V → Hp → VK → Prop} {g : List D → Option D} (hc : CallR X (.type T) r) (hr : CallS X.K r g) (hg : Gl X x) (hm : X.mg x = none) (hv : bootBuiltins x = some (.type T)) (ha : PA X (e :: es) (tOfA X.K E ps (evA as))) (hn : x ≠ "__name__" := by decide) (hdb : (x == ("__debug__" : Str)) = false := by decide)
    (he : starEach (e :: es) X.env = (false, eval e X.env) :: starEach es X.env := by rfl) (hpl : (backTo pos (starEach es X.env)).any (·.1) = false := by rfl) : PE X (.Call (.Name x p) (e :: es) [] pos) (tOf X.K E ps (mCallB g as)) :=
  pe_imp (pe_callTy hc hg hm hv ha hn hdb he hpl) fun _ _ _ h => callS hr h
theorem flat_free {K : Frag} {H H' : Hp} {v : V} {d : D} (r : Rp K H v d) (h : flatD d = true) : Rp K H' v d := by
  cases r with
  | non => exact .non
  | bl b => exact .bl b
  | int i => exact .int i
  | str x => exact .str x
  | _ => simp [flatD] at h
theorem ex_upd {Hs H : Hp} {q : Addr} {u : HO} (e : Ex Hs H) (h : H q = some u) : Ex (upd Hs q u) H := fun c w z => by
  by_cases hc : c = q
  · subst hc; rw [upd_same] at z; cases z; exact h
  · rw [upd_ne hc] at z; exact e c w z
/-- own things lent for a while: what is handed back is flat, so nothing of them stays -/
theorem lent {K : Frag} {W : Wd} {Hs H : Hp} {σ : L2.St} {δ : Env} {i : Nat} {xs : List D} (re : RE K W Hs H σ δ) (hx : δ[i]? = some (Sl.ow xs)) :
    ∃ (q : Addr) (Hb : Hp), σ[i]? = some (some (V.ref q)) ∧ Ex Hs Hb ∧ Ex Hb H ∧ Rp K Hb (.ref q) (.list xs) ∧ H q ≠ none ∧ tyV K "list" (.ref q) H ∧ ∃ vs, H q = some (.lst vs) ∧ Rps K Hs vs xs := by
  obtain ⟨q, u, h1, h2, h3, h4, h5⟩ := re.ow i _ hx rfl
  cases u with
  | lst vs =>
    have e : Ex Hs (upd Hs q (.lst vs)) := ex_new h4
    exact ⟨q, upd Hs q (.lst vs), h1, e, ex_upd re.ex h2, .lst (SqL.of upd_same) (Rps.ex e h3), by rw [h2]; simp, .inl ⟨rfl, vs, .inl (.inl h2)⟩, vs, h2, h3⟩
  | _ => exact h3.elim
def bLen : List D → Option D
  | [.str z] => if z.length ≤ sizeLine then some (.int z.length) else none
  | [.list xs] => some (.int xs.length)
  | [.tuple xs] => some (.int xs.length)
  | _ => none
def rLenA (K : Frag) : List V → Hp → VK → Prop := fun xs H Q => (∃ p ys, xs = [.ref p] ∧ (SqL K H p ys ∨ SqT K H p ys) ∧ Q (.int ys.length) H) ∨ ∃ z, xs = [.str z] ∧ z.length ≤ sizeLine ∧ Q (.int z.length) H
theorem call_lenA : CallR X (.builtin "len") (rLenA X.K) := call_len_seq.or call_len_str
theorem cs_len {K : Frag} : CallS K (rLenA K) bLen := fun Hs H vs ds c Q ex t hg k => by
  cases t with
  | nil => simp [bLen] at hg
  | cons r t =>
    cases t with
    | cons _ _ => cases r <;> simp [bLen] at hg
    | nil =>
      cases r with
      | str z =>
        simp only [bLen, Option.ite_none_right_eq_some, Option.some.injEq] at hg
        obtain ⟨hl, hg⟩ := hg
        subst hg
        exact .inr ⟨z, rfl, hl, k _ Hs H (.refl ex) (.int _)⟩
      | lst h t =>
        obtain rfl := Option.some.inj hg
        exact .inl ⟨_, _, rfl, .inl (sqL_ex ex h), by rw [t.length]; exact k _ Hs H (.refl ex) (.int _)⟩
      | tup h t =>
        obtain rfl := Option.some.inj hg
        exact .inl ⟨_, _, rfl, .inr (sqT_ex ex h), by rw [t.length]; exact k _ Hs H (.refl ex) (.int _)⟩
      | _ => simp [bLen] at hg
def bInt : List D → Option D
  | [.int i] => some (.int i)
  | [.bool b] => some (.int (if b then 1 else 0))
  | _ => none
theorem cs_int {K : Frag} : CallS K (fun xs H Q => (∃ i, xs = [.int i] ∧ Q (.int i) H) ∨ ∃ k, xs = [.bl k] ∧ Q (.int (if k then 1 else 0)) H) bInt := fun Hs H vs ds c Q ex t hg k => by
  cases t with
  | nil => simp [bInt] at hg
  | cons r t =>
    cases t with
    | cons _ _ => cases r <;> simp [bInt] at hg
    | nil =>
      cases r with
      | int i =>
        obtain rfl := Option.some.inj hg
        exact .inl ⟨i, rfl, k _ Hs H (.refl ex) (.int _)⟩
      | bl b =>
        obtain rfl := Option.some.inj hg
        exact .inr ⟨b, rfl, k _ Hs H (.refl ex) (.int _)⟩
      | _ => simp [bInt] at hg
def bII (f : Int → Int → Int) : List D → Option D
  | [.int i, .int j] => some (.int (f i j))
  | _ => none
theorem cs_II {K : Frag} {f : Int → Int → Int} : CallS K (fun xs H Q => ∃ i j, xs = [.int i, .int j] ∧ Q (.int (f i j)) H) (bII f) := fun Hs H vs ds c Q ex t hg k => by
  cases t with
  | nil => simp [bII] at hg
  | cons r t =>
    cases t with
    | nil => cases r <;> simp [bII] at hg
    | cons r' t =>
      cases t with
      | cons _ _ => cases r <;> cases r' <;> simp [bII] at hg
      | nil =>
        cases r <;> cases r' <;> simp [bII] at hg
        subst hg
        exact ⟨_, _, rfl, k _ Hs H (.refl ex) (.int _)⟩
def bTuple : List D → Option D
  | [.list xs] => some (.tuple xs)
  | [.tuple xs] => some (.tuple xs)
  | _ => none
theorem cs_tuple {K : Frag} : CallS K (fun xs H Q => ∃ p ys, xs = [.ref p] ∧ ((SqL K H p ys ∧ ∀ l, H l = none → Q (.ref l) (upd H l (.tup ys))) ∨ (SqT K H p ys ∧ Q (.ref p) H))) bTuple := fun Hs H vs ds c Q ex t hg k => by
  cases t with
  | nil => simp [bTuple] at hg
  | cons r t =>
    cases t with
    | cons _ _ => cases r <;> simp [bTuple] at hg
    | nil =>
      cases r with
      | lst h t =>
        obtain rfl := Option.some.inj hg
        exact ⟨_, _, rfl, .inl ⟨sqL_ex ex h, fun p hp => k _ _ _ (Gr.new ex hp) (.tup (StT.of upd_same) (t.ex (Gr.new ex hp).s))⟩⟩
      | tup h t =>
        obtain rfl := Option.some.inj hg
        exact ⟨_, _, rfl, .inr ⟨sqT_ex ex h, k _ Hs H (.refl ex) (.tup h t)⟩⟩
      | _ => simp [bTuple] at hg
def bList : List D → Option D
  | [.list xs] => some (.list xs)
  | [.tuple xs] => some (.list xs)
  | _ => none
theorem cs_list {K : Frag} : CallS K (fun xs H Q => ∃ p ys, xs = [.ref p] ∧ (SqL K H p ys ∨ SqT K H p ys) ∧ ∀ l, H l = none → Q (.ref l) (upd H l (.lst ys))) bList := fun Hs H vs ds c Q ex t hg k => by
  cases t with
  | nil => simp [bList] at hg
  | cons r t =>
    cases t with
    | cons _ _ => cases r <;> simp [bList] at hg
    | nil =>
      cases r with
      | lst h t =>
        obtain rfl := Option.some.inj hg
        exact ⟨_, _, rfl, .inl (sqL_ex ex h), fun p hp => k _ _ _ (Gr.new ex hp) (.lst (SqL.of upd_same) (t.ex (Gr.new ex hp).s))⟩
      | tup h t =>
        obtain rfl := Option.some.inj hg
        exact ⟨_, _, rfl, .inr (sqT_ex ex h), fun p hp => k _ _ _ (Gr.new ex hp) (.lst (SqL.of upd_same) (t.ex (Gr.new ex hp).s))⟩
      | _ => simp [bList] at hg
def toIs : List D → Option (List Int)
  | [] => some []
  | .int b :: r => (toIs r).map (b :: ·)
  | _ :: _ => none
theorem toIs_eq : ∀ {ds : List D} {bs : List Int}, toIs ds = some bs → ds = bs.map PyData.int
  | [], bs, h => by obtain rfl := Option.some.inj h; rfl
  | d :: r, bs, h => by
    cases d with
    | int b =>
      unfold toIs at h
      cases z : toIs r with
      | none => rw [z] at h; simp at h
      | some cs =>
        rw [z] at h
        have e : b :: cs = bs := by simpa using h
        subst e
        rw [List.map_cons, toIs_eq z]
    | _ => simp [toIs] at h
def toSs : List D → Option (List Str)
  | [] => some []
  | .str b :: r => (toSs r).map (b :: ·)
  | _ :: _ => none
theorem toSs_eq : ∀ {ds : List D} {bs : List Str}, toSs ds = some bs → ds = bs.map PyData.str
  | [], bs, h => by obtain rfl := Option.some.inj h; rfl
  | d :: r, bs, h => by
    cases d with
    | str b =>
      unfold toSs at h
      cases z : toSs r with
      | none => rw [z] at h; simp at h
      | some cs =>
        rw [z] at h
        have e : b :: cs = bs := by simpa using h
        subst e
        rw [List.map_cons, toSs_eq z]
    | _ => simp [toSs] at h
def bSum : List D → Option D
  | [.list xs] => (toIs xs).map fun ns => .int ns.sum
  | _ => none
theorem cs_sum {K : Frag} : CallS K (rSum K) bSum := fun Hs H vs ds c Q ex t hg k => by
  cases t with
  | nil => simp [bSum] at hg
  | cons r t =>
    cases t with
    | cons _ _ => cases r <;> simp [bSum] at hg
    | nil =>
      cases r with
      | lst h t =>
        simp only [bSum, Option.map_eq_some_iff] at hg
        obtain ⟨bs, h1, h2⟩ := hg
        subst h2
        have e := toIs_eq h1
        subst e
        have e2 := t.ints
        subst e2
        exact ⟨_, bs, rfl, sqL_ex ex h, k _ Hs H (.refl ex) (.int _)⟩
      | _ => simp [bSum] at hg
def tyD : D → String
  | .none => "NoneType"
  | .bool _ => "bool"
  | .int _ => "int"
  | .str _ => "str"
  | .list _ => "list"
  | .tuple _ => "tuple"
  | .dict _ => "dict"
theorem ty_of {K : Frag} {Hs H : Hp} {v : V} {d : D} (ex : Ex Hs H) (r : Rp K Hs v d) : TyX K H v (.type (tyD d)) := by
  cases r with
  | non => exact .base .non
  | bl b => exact .base (.bl b)
  | int i => exact .base (.int i)
  | str x => exact .base (.str x)
  | lst h t =>
    rcases sqL_ex ex h with (h | ⟨o, h⟩) | ⟨o, its, n, h1, h2, _⟩
    · exact .base (.lst h)
    · exact .base (.frz h)
    · exact .kList h1 h2
  | tup h t =>
    rcases sqT_ex ex h with (h | ⟨o, h⟩) | ⟨o, its, n, h1, h2, _⟩
    · exact .base (.tup h)
    · exact .fTuple h
    · exact .kTuple h1 h2
def mIsi (T : String) (m : M D) : M D := mBind m fun d => mOpt ((kitB (tyD d) T).map PyData.bool)
theorem je_isi {T : Str} {T' : String} {p p' : Pos} (h : PE X e (tOf X.K E ps m)) (hg : Gl X "isinstance") (hm : X.mg "isinstance" = none) (hgT : Gl X T) (hmT : X.mg T = none) (hvT : bootBuiltins T = some (.type T')) (hnT : T ≠ "__name__" := by decide) (hdT : (T == ("__debug__" : Str)) = false := by decide)
    (he : starEach (e :: [.Name T p']) X.env = (false, eval e X.env) :: starEach [.Name T p'] X.env := by rfl) (he2 : starEach [.Name T p'] X.env = (false, eval (.Name T p') X.env) :: starEach [] X.env := by rfl) (hpl : (backTo pos (starEach [.Name T p'] X.env)).any (·.1) = false := by rfl) :
    PE X (.Call (.Name "isinstance" p) [e, .Name T p'] [] pos) (tOf X.K E ps (mIsi T' m)) :=
  pe_imp (pe_callB call_isi hg hm (by decide +kernel) (pa_cons h (pa_cons (pe_bltn (v := .ty T') hgT hmT hvT rfl hnT hdT) pa_nil he2) he) (by decide) (by decide) he hpl) fun σ H Q ⟨W, Hs, δ, hp, re, po⟩ => by
    refine tOf.step hp re po fun v d Hs1 H1 δ1 e1 re1 r1 po1 => ?_
    obtain ⟨c, hc, po2⟩ := Post.opt po1
    obtain ⟨b, hb, hc⟩ := Option.map_eq_some_iff.mp hc
    subst hc
    exact ⟨v, .ty T', _, _, b, rfl, .ty T', ty_of re1.ex r1, kit_ty hb, Post.of po2 re1 _ (.bl b)⟩
def MtS (K : Frag) (r : V → List V → Hp → VK → Prop) (g : Str → List D → Option D) : Prop := ∀ Hs H z vs ds c (Q : VK), Ex Hs H → Rps K Hs vs ds → g z ds = some c → (∀ v Hs' H', Gr Hs H Hs' H' → Rp K Hs' v c → Q v H') → r (.str z) vs H Q
def toS : D → Option Str
  | .str z => some z
  | _ => none
def mM1 (g : Str → List D → Option D) (mo m : M D) : M D := mBind mo fun d => mBind (mOpt (toS d)) fun z => mBind m fun e => mOpt (g z [e])
theorem optB {K : Frag} {W : Wd} {Hs : Hp} {σ : L2.St} {δ : Env} {α β : Type} {oa : Option α} {f : α → M β} {QQ : β → Hp → Hp → Env → Prop} (po : Post K E W Hs σ (mBind (mOpt oa) f δ) QQ) : ∃ a, oa = some a ∧ Post K E W Hs σ (f a δ) QQ := by
  cases oa with
  | none => exact po.elim
  | some a => exact ⟨a, rfl, po⟩
theorem je_m1 {id : String} {name : Str} {apos pos : Pos} {r : V → List V → Hp → VK → Prop} {g : Str → List D → Option D} (slot : Slot "str" name id) (ty : typeOf (.builtin id) = pure (.type "method_descriptor")) (rule : MtR X id r) (hr : MtS X.K r g) (ho : PE X o (tOf X.K E ps ma)) (he : PE X e (tOf X.K E ps m))
    (hs : starEach [e] X.env = [(false, eval e X.env)] := by rfl) (hbase : attributeBase o name X.env (eval o X.env) = eval o X.env := by rfl) (hline : (apos.endLine == pos.line) = true := by rfl) : PE X (.Call (.Attribute o name apos) [e] [] pos) (tOf X.K E ps (mM1 g ma m)) :=
  pe_imp (pe_m1 slot ty rule ho he hs hbase hline) fun σ H Q ⟨W, Hs, δ, hp, re, po⟩ => by
    refine tOf.step hp re po fun v d Hs1 H1 δ1 e1 re1 r1 po1 => ?_
    obtain ⟨z, hz, po2⟩ := optB po1
    cases r1 <;> simp [toS] at hz
    subst hz
    refine ⟨⟨_, rfl⟩, tOf.step hp re1 po2 fun w c Hs2 H2 δ2 e2 re2 r2 po3 => ?_⟩
    obtain ⟨c', hc, po4⟩ := Post.opt po3
    exact hr Hs2 H2 _ _ _ c' Q re2.ex (.cons r2 .nil) hc fun v Hs' H' g rv => Post.grow po4 re2 g v rv
def sSplit (z : Str) : List D → Option D
  | [.str b] => if (b.length == 0) = false ∧ z.length + 2 ≤ sizeLine then some (.list ((Txt.split z b).map PyData.str)) else none
  | _ => none
theorem ms_split {K : Frag} : MtS K (fun x xs H Q => ∃ a b, x = .str a ∧ xs = [.str b] ∧ (b.length == 0) = false ∧ a.length + 2 ≤ sizeLine ∧ rNewStrs (Txt.split a b) H Q) sSplit := fun Hs H z vs ds c Q ex t hg k => by
  cases t with
  | nil => simp [sSplit] at hg
  | cons r t =>
    cases t with
    | cons _ _ => cases r <;> simp [sSplit] at hg
    | nil =>
      cases r with
      | str b =>
        simp only [sSplit, Option.ite_none_right_eq_some, Option.some.injEq] at hg
        obtain ⟨⟨h1, h2⟩, hg⟩ := hg
        subst hg
        exact ⟨z, b, rfl, rfl, h1, h2, fun p hp => k _ _ _ (Gr.new ex hp) (.lst (SqL.of upd_same) (Rps.of_strs _))⟩
      | _ => simp [sSplit] at hg
def joinN (z : Str) (ys : List Str) : Nat := (ys.map (·.length)).sum + ys.length * z.length
def sJoin (z : Str) : List D → Option D
  | [.list xs] => (toSs xs).bind fun ys => if joinN z ys ≤ 16777216 then some (.str (Txt.join z ys)) else none
  | [.tuple xs] => (toSs xs).bind fun ys => if joinN z ys ≤ 16777216 then some (.str (Txt.join z ys)) else none
  | _ => none
theorem ms_join {K : Frag} : MtS K (fun x xs H Q => ∃ a p, ∃ ys : List Str, x = .str a ∧ xs = [.ref p] ∧ (SqL K H p (ys.map V.str) ∨ SqT K H p (ys.map V.str)) ∧ (ys.map (·.length)).sum + ys.length * a.length ≤ 16777216 ∧ Q (.str (Txt.join a ys)) H) sJoin := fun Hs H z vs ds c Q ex t hg k => by
  cases t with
  | nil => simp [sJoin] at hg
  | cons r t =>
    cases t with
    | cons _ _ => cases r <;> simp [sJoin] at hg
    | nil =>
      have fin : ∀ {xs : List D}, ((toSs xs).bind fun ys => if joinN z ys ≤ 16777216 then some (.str (Txt.join z ys)) else none) = some c → ∃ ys, xs = ys.map PyData.str ∧ (ys.map (·.length)).sum + ys.length * z.length ≤ 16777216 ∧ c = .str (Txt.join z ys) := fun {xs} h => by
        obtain ⟨ys, h1, h2⟩ := Option.bind_eq_some_iff.mp h
        simp only [Option.ite_none_right_eq_some, Option.some.injEq] at h2
        exact ⟨ys, toSs_eq h1, h2.1, h2.2.symm⟩
      cases r with
      | lst h t =>
        obtain ⟨ys, e1, e2, e3⟩ := fin hg
        subst e1; subst e3
        have e4 := t.strs
        subst e4
        exact ⟨z, _, ys, rfl, rfl, .inl (sqL_ex ex h), e2, k _ Hs H (.refl ex) (.str _)⟩
      | tup h t =>
        obtain ⟨ys, e1, e2, e3⟩ := fin hg
        subst e1; subst e3
        have e4 := t.strs
        subst e4
        exact ⟨z, _, ys, rfl, rfl, .inr (sqT_ex ex h), e2, k _ Hs H (.refl ex) (.str _)⟩
      | _ => simp [sJoin] at hg
def mShs (as : List AM) : M (List D) := mBind (evA as) fun gs => mOpt ((shs gs).filter fun ds => decide (ds.length ≤ sizeLine))
def mTup (as : List AM) : M D := mBind (mShs as) fun ds => mPure (.tuple ds)
def mLst (as : List AM) : M D := mBind (mShs as) fun ds => mPure (.list ds)
theorem mShs_step {W : Wd} {Hs H : Hp} {σ : L2.St} {δ : Env} {β : Type} {f : List D → M β} {QQ : β → Hp → Hp → Env → Prop} {K : Frag} {R : List V → Hp → Prop} (hp : W.pn.map (·.1) = ps) (re : RE K W Hs H σ δ) (po : Post K E W Hs σ (mBind (mShs as) f δ) QQ)
    (k : ∀ vs ds Hs1 H1 δ1, Ex Hs Hs1 → RE K W Hs1 H1 σ δ1 → Rps K Hs1 vs ds → vs.length ≤ sizeLine → Post K E W Hs1 σ (f ds δ1) QQ → R vs H1) : tOfA K E ps (evA as) σ H R := by
  have po' : Post K E W Hs σ (mBind (evA as) (fun gs => mBind (mOpt ((shs gs).filter fun ds => decide (ds.length ≤ sizeLine))) f) δ) QQ := by
    have e : mBind (mShs as) f δ = mBind (evA as) (fun gs => mBind (mOpt ((shs gs).filter fun ds => decide (ds.length ≤ sizeLine))) f) δ := by
      unfold mShs mBind
      cases evA as δ <;> rfl
    rw [← e]; exact po
  refine tOfA.step hp re po' fun vs gs Hs1 H1 δ1 e1 re1 r1 po1 => ?_
  obtain ⟨ds, hc, po2⟩ := optB po1
  obtain ⟨h1, h2⟩ := Option.filter_eq_some_iff.mp hc
  have t := shs_rps r1 h1
  exact k vs ds Hs1 H1 δ1 e1 re1 t (by rw [t.length]; exact of_decide_eq_true h2) po2
theorem je_tup {x1} (h : PA X es (tOfA X.K E ps (evA as))) : PE X (.Tuple es x1 pos) (tOf X.K E ps (mTup as)) :=
  pe_imp (pe_tup h) fun σ H Q ⟨W, Hs, δ, hp, re, po⟩ => mShs_step hp re po fun vs ds Hs1 H1 δ1 e1 re1 t hl po1 => ⟨hl, fun p hpn =>
    Post.grow po1 re1 (Gr.new re1.ex hpn) _ (.tup (StT.of upd_same) (t.ex (Gr.new re1.ex hpn).s))⟩
theorem je_lst (h : PA X es (tOfA X.K E ps (evA as))) : PE X (.List es pos) (tOf X.K E ps (mLst as)) :=
  pe_imp (pe_lst h) fun σ H Q ⟨W, Hs, δ, hp, re, po⟩ => mShs_step hp re po fun vs ds Hs1 H1 δ1 e1 re1 t hl po1 => ⟨hl, fun p hpn =>
    Post.grow po1 re1 (Gr.new re1.ex hpn) _ (.lst (SqL.of upd_same) (t.ex (Gr.new re1.ex hpn).s))⟩
theorem jo_lst (h : PA X es (tOfA X.K E ps (evA as))) : PE X (.List es pos) (tOfO X.K E ps (mShs as)) :=
  pe_imp (pe_lst h) fun σ H Q ⟨W, Hs, δ, hp, re, po⟩ => by
    have po' : Post X.K E W Hs σ (mBind (mShs as) mPure δ) fun xs Hs' H' δ' => ∀ a, FrO X.K W Hs' H' σ δ' a xs → Q (.ref a) H' := by
      have e : mBind (mShs as) mPure δ = mShs as δ := by unfold mBind mPure; cases mShs as δ <;> rfl
      rw [e]; exact po
    refine mShs_step hp re po' fun vs ds Hs1 H1 δ1 e1 re1 t hl po1 => ⟨hl, fun p hpn => ?_⟩
    have en : Ex H1 (upd H1 p (.lst vs)) := ex_new hpn
    refine Post.of po1 (re1.newH en) p ⟨⟨vs, upd_same, t⟩, ex_none re1.ex hpn, ?_, fun i s q w z => ?_⟩
    · cases q : W.G p with
      | none => rfl
      | some u => have := (re1.fg p u q).1; rw [hpn] at this; cases this
    · obtain ⟨a, u, h1, h2, _⟩ := re1.ow i s q w
      rw [h1] at z
      cases z
      rw [hpn] at h2; cases h2
end
end Dn
namespace Dn
open PySem PySem.Spec PyProof.Rows L2
inductive Fl where
  | nx
  | rt (s : Sl)
  | bk
  | ct
def FlOk (K : Frag) (W : Wd) (B : Ends) (fl : Fl) (σ : L2.St) (Hs H : Hp) (δ : Env) : Prop := match fl with
  | .nx => B.nx σ H
  | .bk => B.bk σ H
  | .ct => B.ct σ H
  | .rt (.sh d) => ∀ v, Rp K Hs v d → B.rt v H
  | .rt (.ow xs) => ∀ a, FrO K W Hs H σ δ a xs → B.rt (.ref a) H
  | .rt .no => False
def PostS (K : Frag) (E : XQ) (W : Wd) (Hs : Hp) (r : Res Fl) (B : Ends) (b : Wd → Fl → L2.St → Hp → Hp → Env → Prop) : Prop := match r with
  | .ok fl δ' => ∀ σ' Hs' H', Ex Hs Hs' → RE K W Hs' H' σ' δ' → b W fl σ' Hs' H' δ'
  | .exc x δ' => ∀ σ' Hs' H', Ex Hs Hs' → RE K W Hs' H' σ' δ' → E x σ' H'
  | .bad => False
abbrev PostF (K : Frag) (E : XQ) (W : Wd) (Hs : Hp) (r : Res Fl) (B : Ends) : Prop := PostS K E W Hs r B fun W fl σ' Hs' H' δ' => FlOk K W B fl σ' Hs' H' δ'
theorem PostS.ex {K : Frag} {E : XQ} {W : Wd} {Hs Hs1 : Hp} {r : Res Fl} {B : Ends} {b : Wd → Fl → L2.St → Hp → Hp → Env → Prop} (h : PostS K E W Hs r B b) (e : Ex Hs Hs1) : PostS K E W Hs1 r B b := by
  cases r with
  | ok a δ' => exact fun σ' Hs' H' e' r => h σ' Hs' H' (e.trans e') r
  | exc x δ' => exact fun σ' Hs' H' e' r => h σ' Hs' H' (e.trans e') r
  | bad => exact h
def tOfS (K : Frag) (E : XQ) (ps : List Nat) (m : M Fl) : TS := fun B σ H => ∃ (W : Wd) (Hs : Hp) (δ : Env), W.pn.map (·.1) = ps ∧ RE K W Hs H σ δ ∧ PostF K E W Hs (m δ) B
section
variable {K : Frag} {E : XQ} {ps : List Nat} {W : Wd} {Hs H : Hp} {σ : L2.St} {δ : Env} {B : Ends}
theorem Cf.stepS {α : Type} {ma : M α} {f : α → M Fl} {R : Wd → α → Hp → Hp → Env → Prop} (hp : W.pn.map (·.1) = ps) (re : RE K W Hs H σ δ) (po : PostF K E W Hs (mBind ma f δ) B)
    (k : ∀ a Hs1 H1 δ1, Ex Hs Hs1 → RE K W Hs1 H1 σ δ1 → PostF K E W Hs1 (f a δ1) B → R W a Hs1 H1 δ1) : Cf K E ps ma σ H R := by
  refine ⟨W, Hs, δ, hp, re, ?_⟩
  unfold mBind at po
  cases h : ma δ with
  | ok a δ1 =>
    rw [h] at po
    exact fun Hs' H' e r => k a Hs' H' δ1 e r (PostS.ex po e)
  | exc x δ1 =>
    rw [h] at po
    exact fun Hs' H' e r => po σ Hs' H' e r
  | bad =>
    rw [h] at po
    exact po
theorem tOf.stepS {ma : M D} {f : D → M Fl} {R : V → Hp → Prop} (hp : W.pn.map (·.1) = ps) (re : RE K W Hs H σ δ) (po : PostF K E W Hs (mBind ma f δ) B)
    (k : ∀ v d Hs1 H1 δ1, Ex Hs Hs1 → RE K W Hs1 H1 σ δ1 → Rp K Hs1 v d → PostF K E W Hs1 (f d δ1) B → R v H1) : tOf K E ps ma σ H R :=
  Cf.stepS hp re po fun d Hs1 H1 δ1 e r p v rv => k v d Hs1 H1 δ1 e r rv p
theorem tOfO.stepS {ma : M (List D)} {f : List D → M Fl} {R : V → Hp → Prop} (hp : W.pn.map (·.1) = ps) (re : RE K W Hs H σ δ) (po : PostF K E W Hs (mBind ma f δ) B)
    (k : ∀ a xs Hs1 H1 δ1, Ex Hs Hs1 → RE K W Hs1 H1 σ δ1 → FrO K W Hs1 H1 σ δ1 a xs → PostF K E W Hs1 (f xs δ1) B → R (.ref a) H1) : tOfO K E ps ma σ H R :=
  Cf.stepS hp re po fun xs Hs1 H1 δ1 e r p a fa => k a xs Hs1 H1 δ1 e r fa p
theorem PostS.of {fl : Fl} {b : Wd → Fl → L2.St → Hp → Hp → Env → Prop} (po : PostS K E W Hs (.ok fl δ) B b) (re : RE K W Hs H σ δ) : b W fl σ Hs H δ := po σ Hs H (Ex.refl _) re
theorem optF {α : Type} {oa : Option α} {f : α → M Fl} (po : PostF K E W Hs (mBind (mOpt oa) f δ) B) : ∃ a, oa = some a ∧ PostF K E W Hs (f a δ) B := by
  cases oa with
  | none => exact po.elim
  | some a => exact ⟨a, rfl, po⟩
theorem mOwn_postF {i : Nat} {f : List D → M Fl} (po : PostF K E W Hs (mBind (mOwn i) f δ) B) : ∃ xs, δ[i]? = some (Sl.ow xs) ∧ PostF K E W Hs (f xs δ) B := by
  unfold mBind mOwn at po
  split at po
  · rename_i a e' h
    split at h
    · rename_i xs hx
      cases h
      exact ⟨_, hx, po⟩
    · cases h
  · rename_i x e' h
    split at h <;> cases h
  · exact po.elim
end
section
variable {X : Cx} {E : XQ} {ps : List Nat} {a b e : Expr} {st : Stmt} {rest : List Stmt} {pos : Pos} {m : M D} {mo : M (List D)} {m1 m2 : M Fl}
def mSeq (m1 m2 : M Fl) : M Fl := fun δ => match m1 δ with
  | .ok .nx δ' => m2 δ'
  | r => r
def mNx : M Fl := mPure .nx
theorem jss_nil : PSs X [] (tOfS X.K E ps mNx) := pss_imp pss_nil fun B σ H ⟨W, Hs, δ, hp, re, po⟩ => PostS.of po re
theorem jss_one (h : PS X st (tOfS X.K E ps m1)) : PSs X [st] (tOfS X.K E ps m1) := pss_one h
theorem jss_cons (h : PS X st (tOfS X.K E ps m1)) (t : PSs X rest (tOfS X.K E ps m2)) : PSs X (st :: rest) (tOfS X.K E ps (mSeq m1 m2)) :=
  pss_imp (pss_cons h t) fun B σ H ⟨W, Hs, δ, hp, re, po⟩ => by
    refine ⟨W, Hs, δ, hp, re, ?_⟩
    unfold mSeq at po
    cases q : m1 δ with
    | ok fl δ1 =>
      rw [q] at po
      cases fl with
      | nx => exact fun σ' Hs' H' e r => ⟨W, Hs', δ1, hp, r, PostS.ex po e⟩
      | rt s => cases s <;> exact po
      | bk => exact po
      | ct => exact po
    | exc x δ1 =>
      rw [q] at po
      exact po
    | bad =>
      rw [q] at po
      exact po
def mExpr (m : M D) : M Fl := mBind m fun _ => mNx
theorem js_expr (h : PE X e (tOf X.K E ps m)) (hs : swapsWith e none pos.line X.env = pure false := by rfl) : PS X (.Expr e pos) (tOfS X.K E ps (mExpr m)) :=
  pst_imp (ps_expr h hs) fun B σ H ⟨W, Hs, δ, hp, re, po⟩ => tOf.stepS hp re po fun v d Hs1 H1 δ1 e1 re1 r1 po1 => PostS.of po1 re1
def mRet (m : M D) : M Fl := mBind m fun d => mPure (.rt (.sh d))
theorem js_ret (h : PE X e (tOf X.K E ps m)) : PS X (.Return (some e) pos) (tOfS X.K E ps (mRet m)) :=
  pst_imp (ps_ret h) fun B σ H ⟨W, Hs, δ, hp, re, po⟩ => tOf.stepS hp re po fun v d Hs1 H1 δ1 e1 re1 r1 po1 => PostS.of po1 re1 v r1
def mIfS (t : M Bool) (m1 m2 : M Fl) : M Fl := mBind t fun b => if b then m1 else m2
theorem js_if {c : Expr} {sa sb : List Stmt} {t : M Bool} (hc : PT X c (tOfT X.K E ps t)) (h1 : PSs X sa (tOfS X.K E ps m1)) (h2 : PSs X sb (tOfS X.K E ps m2)) : PS X (.If c sa sb pos) (tOfS X.K E ps (mIfS t m1 m2)) :=
  pst_imp (ps_if hc h1 h2) fun B σ H ⟨W, Hs, δ, hp, re, po⟩ => Cf.stepS hp re po fun b Hs1 H1 δ1 e1 re1 po1 => by
    cases b with
    | true => exact ⟨W, Hs1, δ1, hp, re1, po1⟩
    | false => exact ⟨W, Hs1, δ1, hp, re1, po1⟩
/-- x = e -/
def mSet (i : Nat) (m : M D) : M Fl := mBind m fun d => fun δ => .ok .nx (δ.set i (.sh d))
theorem js_set {i : Nat} {x : Str} {pos' : Pos} (hps : i ∉ ps) (hN : X.N.Nodup) (hi : X.N[i]? = some x) (hx : Loc X.env.scope x) (h : PE X e (tOf X.K E ps m)) (hs : swapsWith e (some (.Name x pos')) pos.line X.env = pure false := by rfl) (hf : X.fn x = true ∨ X.env.scope.names.lookup x = some .local := by first | exact .inl rfl | exact .inr rfl | assumption) :
    PS X (.Assign [.Name x pos'] e pos) (tOfS X.K E ps (mSet i m)) :=
  pst_imp (ps_set hN hi hx h hs hf) fun B σ H ⟨W, Hs, δ, hp, re, po⟩ => tOf.stepS hp re po fun v d Hs1 H1 δ1 e1 re1 r1 po1 => PostS.of po1 (re1.setSh r1 (by rw [hp]; exact hps))
/-- x[i] = e, x a list of one's own -/
def mSetIx (k : Nat) (mi me : M D) : M Fl := mBind me fun d => mBind (mOwn k) fun _ => mBind mi fun e => mBind (mOwn k) fun xs => mBind (mOpt (toI e)) fun n => mBind (mOpt (n.bind fun n => ixN xs.length n)) fun j => fun δ => .ok .nx (δ.set k (.ow (xs.set j d)))
theorem js_setIx {k : Nat} {x : Str} {p p' : Pos} {i v : Expr} {mi me : M D} (hN : X.N[k]? = some x) (hv : Vis X.env.scope x) (he : PE X v (tOf X.K E ps me)) (hi : PE X i (tOf X.K E ps mi)) (hd : (x == ("__debug__" : Str)) = false := by decide) (hcd : (x == ("__classdict__" : Str)) = false := by decide)
    (ha : ∀ v, assign (.Subscript (.Name x p) i p') X.env v = (do
      let ov ← holding [v] (eval (.Name x p) X.env)
      let iv ← holding [v, ov] (eval i X.env)
      standAt p'
      holding [v, ov, iv] (setItem ov iv v)
      release [v, ov, iv] []) := by intro _; rfl)
    (hs : swapsWithSole [.Subscript (.Name x p) i p'] v pos.line X.env = pure false := by rfl) (hw : swappedStores [.Subscript (.Name x p) i p'] v X.env = pure none := by rfl)
    (h1 : (assignEach [.Subscript (.Name x p) i p'] X.env).map (·.2) = [assign (.Subscript (.Name x p) i p') X.env] := by rfl) : PS X (.Assign [.Subscript (.Name x p) i p'] v pos) (tOfS X.K E ps (mSetIx k mi me)) :=
  pst_imp (ps_asg he (pg_sub (pe_var hN hv hd hcd) hi set_list ha) hs hw h1) fun B σ H ⟨W, Hs, δ, hp, re, po⟩ => by
    refine tOf.stepS hp re po fun w d Hs1 H1 δ1 e1 re1 r1 po1 => ?_
    obtain ⟨xs, hx, po2⟩ := mOwn_postF po1
    obtain ⟨q, Hb, g1, _⟩ := lent re1 hx
    refine ⟨_, g1, tOf.stepS hp re1 po2 fun u c Hs2 H2 δ2 e2 re2 r2 po3 => ?_⟩
    obtain ⟨xs', hx', po4⟩ := mOwn_postF po3
    obtain ⟨q', Hb', g1', _, _, _, _, _, vs, g7, g8⟩ := lent re2 hx'
    have eq : q' = q := by rw [g1] at g1'; cases g1'; rfl
    subst eq
    obtain ⟨n, hn, po5⟩ := optF po4
    obtain ⟨j, hj, po6⟩ := optF po5
    cases r2 <;> simp [toI] at hn
    subst hn
    simp only [Option.bind_some] at hj
    refine ⟨q', vs, _, j, rfl, rfl, g7, by rw [g8.length]; exact hj, ?_⟩
    exact PostS.of po6 (re2.write hx' rfl g1 (s := .ow (xs'.set j d)) rfl (Rps.set (r1.ex e2) j g8))
/-- x.append(e) -/
def mApp (k : Nat) (me : M D) : M Fl := mBind (mOwn k) fun _ => mBind me fun d => mBind (mOwn k) fun xs => mBind (mOpt (if xs.length < sizeLine then some () else none)) fun _ => fun δ => .ok .nx (δ.set k (.ow (xs ++ [d])))
theorem js_app {k : Nat} {x : Str} {p apos cpos : Pos} {v : Expr} {me : M D} (hN : X.N[k]? = some x) (hv : Vis X.env.scope x) (he : PE X v (tOf X.K E ps me)) (hd : (x == ("__debug__" : Str)) = false := by decide) (hcd : (x == ("__classdict__" : Str)) = false := by decide)
    {PE0 : PE X (.Call (.Attribute (.Name x p) "append" apos) [v] [] cpos) (tBM X.K "list" rAppend (tVar k) (tCons (tOf X.K E ps me) tNil))}
    (hs : swapsWith (.Call (.Attribute (.Name x p) "append" apos) [v] [] cpos) none pos.line X.env = pure false := by rfl) : PS X (.Expr (.Call (.Attribute (.Name x p) "append" apos) [v] [] cpos) pos) (tOfS X.K E ps (mApp k me)) :=
  pst_imp (ps_expr PE0 hs) fun B σ H ⟨W, Hs, δ, hp, re, po⟩ => by
    obtain ⟨xs, hx, po1⟩ := mOwn_postF po
    obtain ⟨q, Hb, g1, _, _, _, _, g6, _⟩ := lent re hx
    refine ⟨_, g1, g6, tOf.stepS hp re po1 fun w d Hs1 H1 δ1 e1 re1 r1 po2 => ?_⟩
    obtain ⟨xs', hx', po3⟩ := mOwn_postF po2
    obtain ⟨q', Hb', g1', _, _, _, _, _, vs, g7, g8⟩ := lent re1 hx'
    have eq : q' = q := by rw [g1] at g1'; cases g1'; rfl
    subst eq
    obtain ⟨_, hl, po4⟩ := optF po3
    have hlt : xs'.length < sizeLine := by
      by_cases h : xs'.length < sizeLine
      · exact h
      · rw [if_neg h] at hl; cases hl
    refine ⟨q', vs, w, rfl, rfl, g7, by rw [g8.length]; exact hlt, ?_⟩
    exact PostS.of po4 (re1.write hx' rfl g1 (s := .ow (xs' ++ [d])) rfl (g8.snoc r1))
def PostG (r : Res Unit) (Q : Env → Prop) : Prop := match r with
  | .ok _ δ' => Q δ'
  | _ => False
def rBind (r : Res Unit) (f : Env → Res Unit) : Res Unit := match r with
  | .ok _ δ' => f δ'
  | _ => .bad
theorem PostG.bind {r : Res Unit} {f : Env → Res Unit} {Q : Env → Prop} (h : PostG (rBind r f) Q) : PostG r fun δ' => PostG (f δ') Q := by
  cases r with
  | ok a δ => exact h
  | exc x δ => exact h
  | bad => exact h
theorem PostG.imp {r : Res Unit} {Q Q' : Env → Prop} (h : PostG r Q) (k : ∀ δ, Q δ → Q' δ) : PostG r Q' := by
  cases r with
  | ok a δ => exact k δ h
  | exc x δ => exact h
  | bad => exact h
/-- the same but for some slots -/
def Off (gv : List Nat) (σ σ' : L2.St) : Prop := σ'.length = σ.length ∧ ∀ j, j ∉ gv → σ'[j]? = σ[j]?
theorem Off.refl {gv : List Nat} {σ : L2.St} : Off gv σ σ := ⟨rfl, fun _ _ => rfl⟩
theorem Off.trans {gv gw : List Nat} {σ σ1 σ2 : L2.St} (a : Off gv σ σ1) (b : Off gw σ1 σ2) : Off (gv ++ gw) σ σ2 := ⟨b.1.trans a.1, fun j h => by
  rw [List.mem_append, not_or] at h
  rw [b.2 j h.2, a.2 j h.1]⟩
def gOf (K : Frag) (E : XQ) (ps gv : List Nat) (mg : D → M Unit) : TG := fun v σ H Q => ∃ (W : Wd) (Hs : Hp) (δ : Env) (d : D), W.pn.map (·.1) = ps ∧ RE K W Hs H σ δ ∧ Rp K Hs v d ∧
  PostG (mg d δ) fun δ' => ∀ σ' Hs' H', Ex Hs Hs' → RE K W Hs' H' σ' δ' → Off gv σ σ' → Q σ' H'
def gOfs (K : Frag) (E : XQ) (ps gv : List Nat) (mg : List D → M Unit) : TGs := fun vs σ H Q => ∃ (W : Wd) (Hs : Hp) (δ : Env) (ds : List D), W.pn.map (·.1) = ps ∧ RE K W Hs H σ δ ∧ Rps K Hs vs ds ∧
  PostG (mg ds δ) fun δ' => ∀ σ' Hs' H', Ex Hs Hs' → RE K W Hs' H' σ' δ' → Off gv σ σ' → Q σ' H'
theorem pg_imp {tg : Expr} {t t' : TG} (h : PG X tg t) (k : ∀ v σ H Q, t' v σ H Q → t v σ H Q) : PG X tg t' := ⟨fun pins s σ H v u Q I r q => h.run pins s σ H v u Q I r (k v σ H Q q)⟩
theorem pgs_imp {tg : List Expr} {t t' : TGs} (h : PGs X tg t) (k : ∀ v σ H Q, t' v σ H Q → t v σ H Q) : PGs X tg t' := ⟨fun pins s σ H v u Q I r q => h.run pins s σ H v u Q I r (k v σ H Q q)⟩
def mgName (i : Nat) : D → M Unit := fun d δ => .ok () (δ.set i (.sh d))
theorem jg_name {i : Nat} {x : Str} (hps : i ∉ ps) (hN : X.N.Nodup) (hi : X.N[i]? = some x) (hx : Loc X.env.scope x) (hf : X.fn x = true ∨ X.env.scope.names.lookup x = some .local := by first | exact .inl rfl | exact .inr rfl | assumption) : PG X (.Name x pos) (gOf X.K E ps [i] (mgName i)) :=
  pg_imp (pg_name hN hi hx hf) fun v σ H Q ⟨W, Hs, δ, d, hp, re, r, po⟩ => po _ Hs H (Ex.refl _) (re.setSh r (by rw [hp]; exact hps)) ⟨by simp, fun j hj => by rw [List.getElem?_set_ne (fun z => hj (by simp [z]))]⟩
def mgNil : List D → M Unit
  | [] => mPure ()
  | _ :: _ => fun _ => .bad
def mgCons (g : D → M Unit) (gs : List D → M Unit) : List D → M Unit
  | d :: ds => fun δ => rBind (g d δ) (gs ds)
  | [] => fun _ => .bad
theorem jgs_nil : PGs X [] (gOfs X.K E ps [] mgNil) := pgs_imp pgs_nil fun vs σ H Q ⟨W, Hs, δ, ds, hp, re, r, po⟩ => by
  cases r with
  | nil => exact ⟨rfl, po σ Hs H (Ex.refl _) re Off.refl⟩
  | cons _ _ => exact po.elim
theorem jgs_cons {t : Expr} {ts : List Expr} {gv gw : List Nat} {g : D → M Unit} {gs : List D → M Unit} (h1 : PG X t (gOf X.K E ps gv g)) (h2 : PGs X ts (gOfs X.K E ps gw gs)) (hs : (assignEach (t :: ts) X.env).map (·.2) = assign t X.env :: (assignEach ts X.env).map (·.2) := by rfl) : PGs X (t :: ts) (gOfs X.K E ps (gv ++ gw) (mgCons g gs)) :=
  pgs_imp (pgs_cons h1 h2 hs) fun vs σ H Q ⟨W, Hs, δ, ds, hp, re, r, po⟩ => by
    cases r with
    | nil => exact po.elim
    | cons r1 rs =>
      refine ⟨_, _, rfl, W, Hs, δ, _, hp, re, r1, (PostG.bind po).imp fun δ1 po1 => ?_⟩
      exact fun σ' Hs' H' e re' of => ⟨W, Hs', δ1, _, hp, re', rs.ex e, po1.imp fun δ2 k σ2 Hs2 H2 e2 r2 of2 => k σ2 Hs2 H2 (e.trans e2) r2 (of.trans of2)⟩
/-- how many names, at any rate -/
def mgLen (n : Nat) (gs : List D → M Unit) : List D → M Unit := fun ds δ => if ds.length = n then gs ds δ else .bad
def mgTup (n : Nat) (gs : List D → M Unit) : D → M Unit
  | .tuple ds => mgLen n gs ds
  | _ => fun _ => .bad
def mgLst (n : Nat) (gs : List D → M Unit) : D → M Unit
  | .list ds => mgLen n gs ds
  | _ => fun _ => .bad
theorem mgLen_post {n : Nat} {gs : List D → M Unit} {ds : List D} {δ : Env} {Q : Env → Prop} (h : PostG (mgLen n gs ds δ) Q) : ds.length = n ∧ PostG (gs ds δ) Q := by
  unfold mgLen at h
  by_cases hl : ds.length = n
  · rw [if_pos hl] at h; exact ⟨hl, h⟩
  · rw [if_neg hl] at h; exact h.elim
theorem jg_tup {ts : List Expr} {k n : Nat} {gv : List Nat} {gs : List D → M Unit} (hc : X.calm = true) (h : PGs X ts (gOfs X.K E ps gv gs)) (hn : (assignEach ts X.env).length = n := by rfl) (hst : (assignEach ts X.env).findIdx? (·.1) = none := by rfl) : PG X (.Tuple ts k pos) (gOf X.K E ps gv (mgTup n gs)) :=
  pg_imp (pg_tup (n := n) hc h hn hst) fun v σ H Q ⟨W, Hs, δ, d, hp, re, r, po⟩ => by
    cases r with
    | tup h1 t =>
      obtain ⟨hl, po1⟩ := mgLen_post po
      exact ⟨_, _, rfl, sqT_ex re.ex h1, by rw [t.length]; exact hl, W, Hs, δ, _, hp, re, t, po1⟩
    | _ => exact po.elim
theorem jg_lst {ts : List Expr} {k n : Nat} {gv : List Nat} {gs : List D → M Unit} (hc : X.calm = true) (h : PGs X ts (gOfs X.K E ps gv gs)) (hn : (assignEach ts X.env).length = n := by rfl) (hst : (assignEach ts X.env).findIdx? (·.1) = none := by rfl) : PG X (.Tuple ts k pos) (gOf X.K E ps gv (mgLst n gs)) :=
  pg_imp (pg_unl (n := n) hc h hn hst) fun v σ H Q ⟨W, Hs, δ, d, hp, re, r, po⟩ => by
    cases r with
    | lst h1 t =>
      obtain ⟨hl, po1⟩ := mgLen_post po
      exact ⟨_, _, rfl, sqL_ex re.ex h1, by rw [t.length]; exact hl, W, Hs, δ, _, hp, re, t, po1⟩
    | _ => exact po.elim
/-- targets = e -/
def mAsg (g : D → M Unit) (m : M D) : M Fl := mBind m fun d δ => match g d δ with
  | .ok _ δ' => .ok .nx δ'
  | _ => .bad
theorem js_asg {tg : Expr} {gv : List Nat} {g : D → M Unit} (h : PE X e (tOf X.K E ps m)) (hg : PG X tg (gOf X.K E ps gv g)) (hs : swapsWithSole [tg] e pos.line X.env = pure false := by rfl) (hw : swappedStores [tg] e X.env = pure none := by rfl)
    (h1 : (assignEach [tg] X.env).map (·.2) = [assign tg X.env] := by rfl) : PS X (.Assign [tg] e pos) (tOfS X.K E ps (mAsg g m)) :=
  pst_imp (ps_asg h hg hs hw h1) fun B σ H ⟨W, Hs, δ, hp, re, po⟩ => tOf.stepS hp re po fun v d Hs1 H1 δ1 e1 re1 r1 po1 => by
    refine ⟨W, Hs1, δ1, d, hp, re1, r1, ?_⟩
    cases q : g d δ1 with
    | ok u δ2 => rw [q] at po1; exact fun σ' Hs' H' e r _ => po1 σ' Hs' H' e r
    | exc x δ2 => rw [q] at po1; exact po1
    | bad => rw [q] at po1; exact po1
end
end Dn
namespace Dn
open PySem PySem.Spec PyProof.Rows L2
def ItOk (K : Frag) (Hs : Hp) (J : It) (ds : List D) : Prop := ∀ Hs1 H1, Ex Hs Hs1 → Ex Hs1 H1 → ∀ i : Nat,
  (∀ d, ds[i]? = some d → J.go i H1 ∧ ∀ x H2, J.yld i H1 x H2 → ∃ Hs2, Gr Hs1 H1 Hs2 H2 ∧ Rp K Hs2 x d) ∧ (ds[i]? = none → J.stop i H1)
def tOfI (K : Frag) (E : XQ) (ps : List Nat) (m : M (List D)) : TI := fun σ H R => Cf K E ps m σ H fun _ ds Hs' H' _ => ∀ J, ItOk K Hs' J ds → R J H'
theorem pi_imp {X : Cx} {tg e : Expr} {t t' : TI} (h : PI X tg e t) (k : ∀ σ H Q, t' σ H Q → t σ H Q) : PI X tg e t' := ⟨fun pins s σ H Q I q => h.run pins s σ H Q I (k σ H Q q)⟩
def sgnD (z : Str) : List D := z.cps.toList.map fun c => .str ⟨#[c]⟩
def dItems : D → Option (List D)
  | .list xs => some xs
  | .tuple xs => some xs
  | .str z => some (sgnD z)
  | _ => none
section
variable {X : Cx} {E : XQ} {ps : List Nat} {tg e : Expr} {pos : Pos} {m : M D}
/-- a list, a tuple, a text -/
def iAnyR (K : Frag) (tl : TE) : TI := fun σ H R => tl σ H fun x H1 => (∃ a, x = .ref a ∧ (∃ xs, SqL K H1 a xs) ∧ R (Itl K a) H1) ∨ (∃ a, x = .ref a ∧ (∃ xs, SqT K H1 a xs) ∧ R (Itt K a) H1) ∨ ∃ z, x = .str z ∧ R (Its z) H1
theorem pi_anyR {tl : TE} (hl : PE X e tl) : PI X tg e (iAnyR X.K tl) := by
  constructor
  intro pins s σ H R I h
  refine thn (hl.run pins s σ H _ I h) ?_
  rintro v s1 ⟨x, H1, I1, r1, q1⟩
  rcases q1 with ⟨a, hx, ⟨xs, hq⟩, q⟩ | ⟨a, hx, ⟨xs, hq⟩, q⟩ | ⟨z, hx, q⟩
  · subst hx
    obtain rfl : v = Value.ref a := r1
    obtain ⟨its, rv, p, hz⟩ := I1.list hq
    exact wpAny_pyIter_list p.isList (pi_one (tk := s1.toks) I1 _ (turn_list a _)
      ⟨_, Heap.get?_push_size _ rfl, rfl, rfl⟩ q)
  · subst hx
    obtain rfl : v = Value.ref a := r1
    obtain ⟨its, rv, p, hz⟩ := I1.tuple hq
    have pt : s1.heap.IsTuple a its.toArray := p
    exact wpAny_pyIter_tuple pt (pi_one (tk := s1.toks) I1 _ (turn_tuple a _)
      ⟨_, Heap.get?_push_size _ rfl, rfl, rfl⟩ q)
  · subst hx
    obtain ⟨t, rfl⟩ := r1
    by_cases ha : z.cps.all (· < 128) = true
    · exact wpAny_pyIter_ascii ha (pi_one (tk := s1.toks) I1 _ (turn_str _ z t _ (.inl rfl))
        ⟨_, Heap.get?_push_size _ rfl, rfl, rfl⟩ q)
    · have ha' : z.cps.all (· < 128) = false := by simpa using ha
      exact wpAny_pyIter_wide ha' (pi_one (tk := s1.toks) I1 _ (turn_str _ z t _ (.inr rfl))
        ⟨_, Heap.get?_push_size _ rfl, rfl, rfl⟩ q)
theorem none_le {α : Type} {l : List α} {i : Nat} (h : l[i]? = none) : l.length ≤ i := List.getElem?_eq_none_iff.mp h
theorem it_list {K : Frag} {Hs : Hp} {a : Addr} {vs : List V} {ds : List D} (h : SqL K Hs a vs) (t : Rps K Hs vs ds) : ItOk K Hs (Itl K a) ds := fun Hs1 H1 e1 e2 i => ⟨fun d hd => by
  obtain ⟨v, h1, h2⟩ := t.get hd
  have hq : SqL K H1 a vs := sqL_ex (e1.trans e2) h
  refine ⟨⟨vs, v, hq, h1⟩, fun x H2 ⟨hH, hx⟩ => ?_⟩
  subst hH
  have := hx vs hq
  rw [h1] at this
  cases this
  exact ⟨Hs1, .refl e2, h2.ex e1⟩, fun hn => ⟨vs, sqL_ex (e1.trans e2) h, by rw [t.length]; exact none_le hn⟩⟩
theorem it_tup {K : Frag} {Hs : Hp} {a : Addr} {vs : List V} {ds : List D} (h : StT K Hs a vs) (t : Rps K Hs vs ds) : ItOk K Hs (Itt K a) ds := fun Hs1 H1 e1 e2 i => ⟨fun d hd => by
  obtain ⟨v, h1, h2⟩ := t.get hd
  have hq : SqT K H1 a vs := sqT_ex (e1.trans e2) h
  refine ⟨⟨vs, v, hq, h1⟩, fun x H2 ⟨hH, hx⟩ => ?_⟩
  subst hH
  have := hx vs hq
  rw [h1] at this
  cases this
  exact ⟨Hs1, .refl e2, h2.ex e1⟩, fun hn => ⟨vs, sqT_ex (e1.trans e2) h, by rw [t.length]; exact none_le hn⟩⟩
theorem it_str {K : Frag} {Hs : Hp} {z : Str} : ItOk K Hs (Its z) (sgnD z) := fun Hs1 H1 e1 e2 i => ⟨fun d hd => by
  unfold sgnD at hd
  rw [List.getElem?_map, Option.map_eq_some_iff] at hd
  obtain ⟨c, hc, hd⟩ := hd
  subst hd
  rw [Array.getElem?_toList] at hc
  refine ⟨(Array.getElem?_eq_some_iff.mp hc).1, fun x H2 ⟨hH, c', hc', hx⟩ => ?_⟩
  subst hH; subst hx
  rw [hc] at hc'
  cases hc'
  exact ⟨Hs1, .refl e2, .str _⟩, fun hn => by
  have := none_le hn
  unfold sgnD at this
  rw [List.length_map, Array.length_toList] at this
  exact this⟩
def mIter (m : M D) : M (List D) := mBind m fun d => mOpt (dItems d)
theorem ji_any (h : PE X e (tOf X.K E ps m)) : PI X tg e (tOfI X.K E ps (mIter m)) :=
  pi_imp (pi_anyR h) fun σ H R ⟨W, Hs, δ, hp, re, po⟩ => tOf.step hp re po fun v d Hs1 H1 δ1 e1 re1 r1 po1 => by
    obtain ⟨ds, hd, po2⟩ := Post.opt po1
    cases r1 with
    | lst h t =>
      obtain rfl := Option.some.inj hd
      exact .inl ⟨_, rfl, ⟨_, sqL_ex re1.ex h⟩, Post.of po2 re1 _ (it_list h t)⟩
    | tup h t =>
      obtain rfl := Option.some.inj hd
      exact .inr (.inl ⟨_, rfl, ⟨_, sqT_ex re1.ex h⟩, Post.of po2 re1 _ (it_tup h t)⟩)
    | str z =>
      obtain rfl := Option.some.inj hd
      exact .inr (.inr ⟨z, rfl, Post.of po2 re1 _ it_str⟩)
    | _ => simp [dItems] at hd
def inLine (i : Int) : Bool := decide (-(2 ^ 62) ≤ i ∧ i < 2 ^ 62)
def rngD (i : Int) (n : Nat) : List D := (List.range n).map fun (k : Nat) => PyData.int (i + (k : Int))
def bRng1 : D → Option (List D)
  | .int j => if inLine j then some (rngD 0 j.toNat) else none
  | _ => none
def bRng2 : D → D → Option (List D)
  | .int i, .int j => if inLine i ∧ inLine j then some (rngD i (j - i).toNat) else none
  | _, _ => none
theorem it_rng {K : Frag} {Hs : Hp} {lo : Int} {n : Nat} : ItOk K Hs (Itr lo n) (rngD lo n) := fun Hs1 H1 e1 e2 i => ⟨fun d hd => by
  unfold rngD at hd
  rw [List.getElem?_map, Option.map_eq_some_iff] at hd
  obtain ⟨c, hc, hd⟩ := hd
  subst hd
  obtain ⟨hi, hc⟩ := List.getElem?_eq_some_iff.mp hc
  rw [List.getElem_range] at hc
  subst hc
  rw [List.length_range] at hi
  refine ⟨hi, fun x H2 ⟨hH, hx⟩ => ?_⟩
  subst hH; subst hx
  exact ⟨Hs1, .refl e2, .int _⟩, fun hn => by
  have := none_le hn
  unfold rngD at this
  rw [List.length_map, List.length_range] at this
  exact this⟩
def mRng1 (m : M D) : M (List D) := mBind m fun d => mOpt (bRng1 d)
def mRng2 (ma mb : M D) : M (List D) := mBind ma fun d => mBind mb fun e => mOpt (bRng2 d e)
theorem ji_range1 {a : Expr} {p : Pos} {ma : M D} (hg : Gl X "range") (hm : X.mg "range" = none) (ha : PE X a (tOf X.K E ps ma)) (hs : starEach [a] X.env = [(false, eval a X.env)] := by rfl) : PI X tg (.Call (.Name "range" p) [a] [] pos) (tOfI X.K E ps (mRng1 ma)) :=
  pi_imp (pi_range1 hg hm (pa_cons ha pa_nil hs) hs) fun σ H R ⟨W, Hs, δ, hp, re, po⟩ => tOf.step hp re po fun v d Hs1 H1 δ1 e1 re1 r1 po1 => by
    obtain ⟨ds, hd, po2⟩ := Post.opt po1
    cases r1 with
    | int j =>
      simp only [bRng1, Option.ite_none_right_eq_some, Option.some.injEq] at hd
      obtain ⟨hl, hd⟩ := hd
      subst hd
      have hl' := of_decide_eq_true hl
      exact ⟨j, rfl, hl'.1, hl'.2, Post.of po2 re1 _ it_rng⟩
    | _ => simp [bRng1] at hd
def forL (g : D → M Unit) (mb : M Fl) : List D → M Fl
  | [] => mNx
  | d :: ds => fun δ => match g d δ with
    | .ok _ δ1 => match mb δ1 with
      | .ok .nx δ2 => forL g mb ds δ2
      | .ok .ct δ2 => forL g mb ds δ2
      | .ok .bk δ2 => .ok .nx δ2
      | .ok (.rt s) δ2 => .ok (.rt s) δ2
      | .exc x δ2 => .exc x δ2
      | .bad => .bad
    | _ => .bad
def mFor (mi : M (List D)) (g : D → M Unit) (mb : M Fl) : M Fl := mBind mi (forL g mb)
theorem js_for {iter : Expr} {body : List Stmt} {mi : M (List D)} {gv : List Nat} {g : D → M Unit} {mb : M Fl} (hpa : PassesOwn (model X.prog X.w) X.A X.env X.xe) (hc : X.calm = true) (hi : PI X tg iter (tOfI X.K E ps mi)) (hg : PG X tg (gOf X.K E ps gv g)) (hb : PSs X body (tOfS X.K E ps mb))
    (hs : ∀ x, foldedSetIterable iter X.env x = pure x := by intro _; rfl) : PS X (.For tg iter body [] pos) (tOfS X.K E ps (mFor mi g mb)) :=
  pst_imp (ps_for hpa hc hi hg hb hs) fun B σ H ⟨W, Hs, δ, hp, re, po⟩ => Cf.stepS hp re po fun ds Hs1 H1 δ1 e1 re1 po1 J hJ => by
    refine ⟨fun i m σ' H' => m = ds.length - i ∧ i ≤ ds.length ∧ ∃ Hs2 δ2, Ex Hs1 Hs2 ∧ RE X.K W Hs2 H' σ' δ2 ∧ PostF X.K E W Hs2 (forL g mb (ds.drop i) δ2) B, ⟨ds.length, rfl, Nat.zero_le _, Hs1, δ1, Ex.refl _, re1, po1⟩, ?_⟩
    rintro i m σ' H' ⟨hm, hi, Hs2, δ2, e2, re2, po2⟩
    obtain ⟨j1, j2⟩ := hJ Hs2 H' e2 re2.ex i
    by_cases hlt : i < ds.length
    · have hd : ds[i]? = some ds[i] := List.getElem?_eq_getElem hlt
      obtain ⟨g1, g2⟩ := j1 _ hd
      refine .inr ⟨g1, fun σ3 H3 => ∃ Hs3 δ3, Ex Hs1 Hs3 ∧ RE X.K W Hs3 H3 σ3 δ3 ∧ PostF X.K E W Hs3 (forL g mb (ds.drop (i + 1)) δ3) B, fun σ3 H3 ⟨Hs3, δ3, e3, re3, po3⟩ => ⟨ds.length - (i + 1), by omega, rfl, hlt, Hs3, δ3, e3, re3, po3⟩, fun x H3 y => ?_⟩
      obtain ⟨Hs3, gr, rx⟩ := g2 x H3 y
      have re3 := re2.grow gr
      have po3 := PostS.ex po2 gr.s
      rw [List.drop_eq_getElem_cons hlt] at po3
      unfold forL at po3
      refine ⟨W, Hs3, δ2, ds[i], hp, re3, rx, ?_⟩
      cases q : g ds[i] δ2 with
      | ok u δ4 =>
        rw [q] at po3
        refine fun σ4 Hs4 H4 e4 re4 _ => ⟨W, Hs4, δ4, hp, re4, ?_⟩
        dsimp only at po3
        cases z : mb δ4 with
        | ok fl δ5 =>
          rw [z] at po3
          cases fl with
          | nx => exact fun σ5 Hs5 H5 e5 re5 => ⟨Hs5, δ5, ((e2.trans gr.s).trans e4).trans e5, re5, PostS.ex po3 (e4.trans e5)⟩
          | ct => exact fun σ5 Hs5 H5 e5 re5 => ⟨Hs5, δ5, ((e2.trans gr.s).trans e4).trans e5, re5, PostS.ex po3 (e4.trans e5)⟩
          | bk => exact fun σ5 Hs5 H5 e5 re5 => po3 σ5 Hs5 H5 (e4.trans e5) re5
          | rt s => cases s <;> exact fun σ5 Hs5 H5 e5 re5 => po3 σ5 Hs5 H5 (e4.trans e5) re5
        | exc x δ5 =>
          rw [z] at po3
          exact fun σ5 Hs5 H5 e5 re5 => po3 σ5 Hs5 H5 (e4.trans e5) re5
        | bad => rw [z] at po3; exact po3
      | exc x δ4 => rw [q] at po3; exact po3
      | bad => rw [q] at po3; exact po3
    · have e : i = ds.length := by omega
      subst e
      rw [List.drop_length] at po2
      exact .inl ⟨j2 (List.getElem?_eq_none_iff.mpr (Nat.le_refl _)), PostS.of po2 re2⟩
end
def wipeE (δ : Env) : List Nat → Env
  | [] => δ
  | v :: vs => (wipeE δ vs).set v .no
def backE (δ1 δ2 : Env) : List Nat → Env
  | [] => δ2
  | v :: vs => (backE δ1 δ2 vs).set v (δ1.getD v .no)
theorem wipeE_length (δ : Env) : ∀ vs, (wipeE δ vs).length = δ.length
  | [] => rfl
  | v :: vs => by unfold wipeE; rw [List.length_set, wipeE_length δ vs]
theorem backE_length (δ1 δ2 : Env) : ∀ vs, (backE δ1 δ2 vs).length = δ2.length
  | [] => rfl
  | v :: vs => by unfold backE; rw [List.length_set, backE_length δ1 δ2 vs]
theorem wipeE_in {δ : Env} {i : Nat} {s : Sl} : ∀ {vs : List Nat}, i ∈ vs → (wipeE δ vs)[i]? = some s → s = .no
  | v :: vs, h, q => by
    unfold wipeE at q
    rcases setGet q with ⟨_, z⟩ | ⟨hj, z⟩
    · exact z
    · rcases List.mem_cons.mp h with e | h
      · exact absurd e hj
      · exact wipeE_in h z
theorem wipeE_out {δ : Env} {i : Nat} : ∀ {vs : List Nat}, i ∉ vs → (wipeE δ vs)[i]? = δ[i]?
  | [], _ => rfl
  | v :: vs, h => by
    unfold wipeE
    have hne : v ≠ i := fun z => h (by simp [z])
    rw [List.getElem?_set_ne hne]
    exact wipeE_out fun z => h (List.mem_cons_of_mem _ z)
theorem backE_in {δ1 δ2 : Env} {i : Nat} {s : Sl} : ∀ {vs : List Nat}, i ∈ vs → (backE δ1 δ2 vs)[i]? = some s → s = δ1.getD i .no
  | v :: vs, h, q => by
    unfold backE at q
    rcases setGet q with ⟨hv, z⟩ | ⟨hj, z⟩
    · rw [hv]; exact z
    · rcases List.mem_cons.mp h with e | h
      · exact absurd e hj
      · exact backE_in h z
theorem backE_out {δ1 δ2 : Env} {i : Nat} : ∀ {vs : List Nat}, i ∉ vs → (backE δ1 δ2 vs)[i]? = δ2[i]?
  | [], _ => rfl
  | v :: vs, h => by
    unfold backE
    have hne : v ≠ i := fun z => h (by simp [z])
    rw [List.getElem?_set_ne hne]
    exact backE_out fun z => h (List.mem_cons_of_mem _ z)
theorem wipe_off {σ σ2 : L2.St} {vs gv : List Nat} (h : Off gv (wipe σ vs) σ2) (hs : ∀ i ∈ gv, i ∈ vs) : wipe σ2 vs = wipe σ vs := by
  apply List.ext_getElem?
  intro j
  by_cases hj : j ∈ vs
  · have f : ∀ (τ : L2.St) (us : List Nat), j ∈ us → (wipe τ us)[j]? = if j < τ.length then some none else none := fun τ us hju => by
      induction us with
      | nil => cases hju
      | cons u us ih =>
        unfold wipe
        by_cases e : u = j
        · subst e
          rw [List.getElem?_set]
          simp [wipe_length]
        · rw [List.getElem?_set_ne e]
          exact ih ((List.mem_cons.mp hju).resolve_left (Ne.symm e))
    rw [f _ _ hj, f _ _ hj, h.1, wipe_length]
  · rw [wipe_out hj, h.2 j (fun z => hj (hs j z)), wipe_out hj]
section
variable {K : Frag} {W : Wd} {Hs H Hs' H' : Hp} {σ : L2.St} {δ δ' : Env} {vs : List Nat}
theorem RE.wipe (re : RE K W Hs H σ δ) (hv : ∀ i ∈ vs, i ∉ W.pn.map (·.1)) : RE K W Hs H (wipe σ vs) (wipeE δ vs) := by
  have r1 : RE K W Hs H σ (wipeE δ vs) := re.less (wipeE_length δ vs) (fun i s q => by
    by_cases hi : i ∈ vs
    · exact .inl (wipeE_in hi q)
    · rw [wipeE_out hi] at q; exact .inr q) fun p hp => wipeE_out fun z => hv p.1 z (List.mem_map_of_mem hp)
  refine r1.sig (wipe_length σ vs) fun i s q hn => ?_
  by_cases hi : i ∈ vs
  · exact absurd (wipeE_in hi q) hn
  · exact wipe_out hi
/-- behind a block: its own names are as they were ahead of it -/
theorem RE.back (re : RE K W Hs H σ δ) (re2 : RE K W Hs' H' (L2.wipe σ vs) δ') (e : Ex Hs Hs') (hno : ∀ i ∈ vs, (δ.getD i .no).own = false) (hv : ∀ i ∈ vs, i ∉ W.pn.map (·.1)) : RE K W Hs' H' σ (backE δ δ' vs) where
  ex := re2.ex
  fg := re2.fg
  len := by rw [backE_length, ← re2.len, wipe_length]
  sh := fun i d q => by
    by_cases hi : i ∈ vs
    · have z := backE_in hi q
      have hg : δ[i]? = some (Sl.sh d) := by
        rw [List.getD_eq_getElem?_getD] at z
        cases w : δ[i]? with
        | none => rw [w] at z; cases z
        | some s => rw [w] at z; exact congrArg some z.symm
      obtain ⟨v, h1, h2⟩ := re.sh i d hg
      exact ⟨v, h1, h2.ex e⟩
    · rw [backE_out hi] at q
      obtain ⟨v, h1, h2⟩ := re2.sh i d q
      rw [wipe_out hi] at h1
      exact ⟨v, h1, h2⟩
  ow := fun i s q w => by
    by_cases hi : i ∈ vs
    · have z := backE_in hi q
      rw [z, hno i hi] at w
      cases w
    · rw [backE_out hi] at q
      obtain ⟨a, o, h1, h2⟩ := re2.ow i s q w
      rw [wipe_out hi] at h1
      exact ⟨a, o, h1, h2⟩
  ap := fun i j s t a h1 h2 h3 h4 h5 h6 => by
    by_cases hi : i ∈ vs
    · have z := backE_in hi h1
      rw [z, hno i hi] at h2
      cases h2
    · by_cases hj : j ∈ vs
      · have z := backE_in hj h3
        rw [z, hno j hj] at h4
        cases h4
      · rw [backE_out hi] at h1
        rw [backE_out hj] at h3
        rw [← wipe_out hi] at h5
        rw [← wipe_out hj] at h6
        exact re2.ap i j s t a h1 h2 h3 h4 h5 h6
  pin := fun p hp => by
    have hi : p.1 ∉ vs := fun z => hv p.1 z (List.mem_map_of_mem hp)
    obtain ⟨h1, s, h2, h3⟩ := re2.pin p hp
    rw [wipe_out hi] at h1
    exact ⟨h1, s, by rw [backE_out hi]; exact h2, h3⟩
/-- a list in the making is lent out to nobody -/
theorem RE.hide {D : Addr} {xs : List PyData} {acc : List V} (re : RE K W Hs H σ δ) (f : FrO K W Hs H σ δ D xs) (ha : H D = some (.lst acc)) : RE K { W with G := upd W.G D (.lst acc) } Hs H σ δ where
  ex := re.ex
  fg := fun a o q => by
    by_cases e : a = D
    · subst e
      have q : upd W.G a (.lst acc) a = some o := q
      rw [upd_same] at q
      cases q
      exact ⟨ha, f.hs⟩
    · have q : upd W.G D (.lst acc) a = some o := q
      rw [upd_ne e] at q
      exact re.fg a o q
  len := re.len
  sh := re.sh
  ow := fun i s q w => by
    obtain ⟨a, o, h1, h2, h3, h4, h5⟩ := re.ow i s q w
    refine ⟨a, o, h1, h2, h3, h4, ?_⟩
    have e : a ≠ D := fun z => f.ne i s q w (z ▸ h1)
    show upd W.G D (.lst acc) a = none
    rw [upd_ne e]
    exact h5
  ap := re.ap
  pin := re.pin
theorem RE.shown {D : Addr} {o u : HO} (re : RE K { W with G := upd W.G D o } Hs H σ δ) (hg : W.G D = none) : RE K W Hs (upd H D u) σ δ where
  ex := fun a o' q => by
    have h := (re.fg D o (by show upd W.G D o D = _; rw [upd_same])).2
    have e : a ≠ D := fun z => by rw [z, h] at q; cases q
    rw [upd_ne e]
    exact re.ex a o' q
  fg := fun a o' q => by
    have e : a ≠ D := fun z => by rw [z, hg] at q; cases q
    rw [upd_ne e]
    exact re.fg a o' (by show upd W.G D o a = _; rw [upd_ne e]; exact q)
  len := re.len
  sh := re.sh
  ow := fun i s q w => by
    obtain ⟨a, o', h1, h2, h3, h4, h5⟩ := re.ow i s q w
    have h5 : upd W.G D o a = none := h5
    have e : a ≠ D := fun z => by rw [z, upd_same] at h5; cases h5
    rw [upd_ne e] at h5
    exact ⟨a, o', h1, by rw [upd_ne e]; exact h2, h3, h4, h5⟩
  ap := re.ap
  pin := re.pin
theorem RE.hidden {D : Addr} {o : HO} (re : RE K { W with G := upd W.G D o } Hs H σ δ) (i : Nat) (s : Sl) (q : δ[i]? = some s) (w : s.own = true) : σ[i]? ≠ some (some (V.ref D)) := fun z => by
  obtain ⟨a, o', h1, h2, h3, h4, h5⟩ := re.ow i s q w
  rw [h1] at z
  cases z
  have h5 : upd W.G D o D = none := h5
  rw [upd_same] at h5
  cases h5
end
def mWipe (vs : List Nat) : M Unit := fun δ => .ok () (wipeE δ vs)
def compL (vs : List Nat) (g : D → M Unit) (mt : M Bool) (me : M D) : List D → M (List D)
  | [] => mPure []
  | d :: ds => fun δ => match g d δ with
    | .ok _ δ1 => mBind mt (fun b => if b then mBind me (fun y => mBind (mWipe vs) fun _ => mBind (compL vs g mt me ds) fun ys => mPure (y :: ys)) else mBind (mWipe vs) fun _ => compL vs g mt me ds) δ1
    | _ => .bad
def compE (vs : List Nat) (g : D → M Unit) (mt : M Bool) (me : M D) (ds : List D) : M (List D) := fun δ =>
  if (vs.all fun i => !(δ.getD i .no).own) = true ∧ ds.length ≤ sizeLine then
    match compL vs g mt me ds (wipeE δ vs) with
    | .ok ys δ2 => .ok ys (backE δ δ2 vs)
    | _ => .bad
  else .bad
def mComp (mi : M (List D)) (vs : List Nat) (g : D → M Unit) (mt : M Bool) (me : M D) : M (List D) := mBind mi (compE vs g mt me)
def mYes : M Bool := mPure true
end Dn
namespace Dn
open PySem PySem.Spec PyProof.Rows L2
section
variable {X : Cx} {E : XQ} {ps : List Nat} {tg e elt iter : Expr} {ifs : List Expr} {pos : Pos} {vs gv : List Nat} {mi : M (List D)} {g : D → M Unit} {mt : M Bool} {me : M D}
/-- what a comprehension's block makes, read off its parts -/
theorem lc_read (hgv : ∀ i ∈ gv, i ∈ vs) (hps : ∀ i ∈ vs, i ∉ ps) {σ : L2.St} {H : Hp} {Q : VK} (h : tOfO X.K E ps (mComp mi vs g mt me) σ H Q) :
    tLc (tOfI X.K E ps mi) (gOf X.K noX ps gv g) (tOfT X.K noX ps mt) (tOf X.K noX ps me) vs σ H Q := by
  obtain ⟨W, Hs, δ, hp, re, po⟩ := h
  have hpn : ∀ i ∈ vs, i ∉ W.pn.map (·.1) := fun i hi => by rw [hp]; exact hps i hi
  refine Cf.step hp re po fun ds Hs1 H1 δ1 e1 re1 po1 J hJ C hC => ?_
  unfold compE at po1
  split at po1
  · rename_i hcond
    obtain ⟨hno', hlen⟩ := hcond
    have hno : ∀ i ∈ vs, (δ1.getD i .no).own = false := fun i hi => by
      have := List.all_eq_true.mp hno' i hi
      simpa using this
    cases hcl : compL vs g mt me ds (wipeE δ1 vs) with
    | ok ys δf =>
      rw [hcl] at po1
      have en : Ex H1 (upd H1 C (.lst [])) := ex_new hC
      have gC : W.G C = none := by
        cases q : W.G C with
        | none => rfl
        | some u => have := (re1.fg C u q).1; rw [hC] at this; cases this
      have re2 := (re1.newH en).wipe (vs := vs) hpn
      have f0 : FrO X.K W Hs1 (upd H1 C (.lst [])) (wipe σ vs) (wipeE δ1 vs) C [] := ⟨⟨[], upd_same, .nil⟩, ex_none re1.ex hC, gC, fun i s q w z => by
        obtain ⟨a, o, h1, h2, _⟩ := (re1.wipe (vs := vs) hpn).ow i s q w
        rw [h1] at z
        cases z
        rw [hC] at h2; cases h2⟩
      refine ⟨fun i m H' => m = ds.length - i ∧ i ≤ ds.length ∧ ∃ Hs2 δ2 done ys2, Ex Hs1 Hs2 ∧ RE X.K W Hs2 H' (wipe σ vs) δ2 ∧ FrO X.K W Hs2 H' (wipe σ vs) δ2 C done ∧ done.length ≤ i ∧ compL vs g mt me (ds.drop i) δ2 = .ok ys2 δf ∧ done ++ ys2 = ys,
        ⟨ds.length, rfl, Nat.zero_le _, Hs1, _, [], ys, Ex.refl _, re2, f0, Nat.le_refl _, hcl, rfl⟩, ?_⟩
      rintro i m H' ⟨hm, hi, Hs2, δ2, done, ys2, e2, re3, f3, hdl, hc3, hys⟩
      obtain ⟨j1, j2⟩ := hJ Hs2 H' e2 re3.ex i
      by_cases hlt : i < ds.length
      · have hd : ds[i]? = some ds[i] := List.getElem?_eq_getElem hlt
        obtain ⟨g1, g2⟩ := j1 _ hd
        refine .inr ⟨g1, fun H3 => ∃ Hs3 δ3 done ys2, Ex Hs1 Hs3 ∧ RE X.K W Hs3 H3 (wipe σ vs) δ3 ∧ FrO X.K W Hs3 H3 (wipe σ vs) δ3 C done ∧ done.length ≤ i + 1 ∧ compL vs g mt me (ds.drop (i + 1)) δ3 = .ok ys2 δf ∧ done ++ ys2 = ys,
          fun H3 hN => ⟨ds.length - (i + 1), by omega, rfl, hlt, hN⟩, fun x H3 y => ?_⟩
        obtain ⟨Hs3, gr, rx⟩ := g2 x H3 y
        obtain ⟨acc, ha, hr⟩ := f3.at_
        have re4 := re3.grow gr
        have f4 : FrO X.K W Hs3 H3 (wipe σ vs) δ2 C done := ⟨⟨acc, gr.h C _ ha, hr.ex gr.s⟩, by rw [gr.f C (by rw [ha]; simp)]; exact f3.hs, f3.g, f3.ne⟩
        have re5 := re4.hide f4 (gr.h C _ ha)
        rw [List.drop_eq_getElem_cons hlt] at hc3
        unfold compL at hc3
        have hp' : ({ W with G := upd W.G C (.lst acc) } : Wd).pn.map (·.1) = ps := hp
        refine ⟨{ W with G := upd W.G C (.lst acc) }, Hs3, δ2, ds[i], hp', re5, rx, ?_⟩
        cases q : g ds[i] δ2 with
        | ok u δ4 =>
          rw [q] at hc3
          refine fun σ4 Hs4 H4 e4 re6 of4 => ⟨wipe_off of4 hgv, ?_⟩
          dsimp only at hc3
          -- a turn's end: the names wiped, the list as it is then
          have turn : ∀ {Hs5 H5 : Hp} {δ5 : Env} {u : HO}, RE X.K { W with G := upd W.G C (.lst acc) } Hs5 H5 σ4 δ5 → RE X.K W Hs5 (upd H5 C u) (wipe σ vs) (wipeE δ5 vs) ∧ (∀ (i : Nat) (s : Sl), (wipeE δ5 vs)[i]? = some s → s.own = true → (wipe σ vs)[i]? ≠ some (some (V.ref C))) ∧ Hs5 C = none ∧ H5 C = some (.lst acc) := fun {Hs5 H5 δ5 u} re7 => by
            have rw7 := re7.wipe (vs := vs) hpn
            rw [wipe_off of4 hgv] at rw7
            have hf := re7.fg C (.lst acc) (by show upd W.G C _ C = _; rw [upd_same])
            exact ⟨rw7.shown f3.g, rw7.hidden, hf.2, hf.1⟩
          refine ⟨_, Hs4, δ4, hp', re6, ?_⟩
          cases zt : mt δ4 with
          | ok b δ5 =>
            rw [show mBind mt _ δ4 = _ from by unfold mBind; rw [zt]] at hc3
            dsimp only at hc3
            refine fun Hs5 H5 e5 re7 => ?_
            cases b with
            | true =>
              rw [if_pos rfl] at hc3 ⊢
              refine ⟨_, Hs5, δ5, hp', re7, ?_⟩
              cases ze : me δ5 with
              | ok yv δ6 =>
                rw [ze] at hc3
                refine fun Hs6 H6 e6 re8 v rv => ?_
                obtain ⟨t1, t2, t3, t4⟩ := turn (u := .lst (acc ++ [v])) re8
                have hal : acc.length = done.length := hr.length
                refine ⟨acc, t4, by omega, ?_⟩
                have hc4 : mBind (compL vs g mt me (ds.drop (i + 1))) (fun ys => mPure (yv :: ys)) (wipeE δ6 vs) = .ok ys2 δf := hc3
                cases zr : compL vs g mt me (ds.drop (i + 1)) (wipeE δ6 vs) with
                | ok ys3 δ7 =>
                  unfold mBind at hc4
                  rw [zr] at hc4
                  have hc5 : Res.ok (yv :: ys3) δ7 = Res.ok ys2 δf := hc4
                  injection hc5 with k1 k2
                  subst k1; subst k2
                  have e16 : Ex Hs1 Hs6 := (((e2.trans gr.s).trans e4).trans e5).trans e6
                  exact ⟨Hs6, _, done ++ [yv], ys3, e16, t1, ⟨⟨acc ++ [v], upd_same, (hr.ex (((gr.s).trans e4).trans (e5.trans e6))).snoc rv⟩, t3, f3.g, t2⟩, by simp; exact hdl, zr, by rw [← hys]; simp⟩
                | exc x δ7 => unfold mBind at hc4; rw [zr] at hc4; cases hc4
                | bad => unfold mBind at hc4; rw [zr] at hc4; cases hc4
              | exc x δ6 => rw [ze] at hc3; cases hc3
              | bad => rw [ze] at hc3; cases hc3
            | false =>
              rw [if_neg Bool.false_ne_true] at hc3 ⊢
              obtain ⟨t1, t2, t3, t4⟩ := turn (u := .lst acc) re7
              have hu : upd H5 C (.lst acc) = H5 := by
                funext b
                by_cases hb : b = C
                · subst hb; rw [upd_same, t4]
                · rw [upd_ne hb]
              rw [hu] at t1
              have hc4 : compL vs g mt me (ds.drop (i + 1)) (wipeE δ5 vs) = .ok ys2 δf := hc3
              exact ⟨Hs5, _, done, ys2, ((e2.trans gr.s).trans e4).trans e5, t1, ⟨⟨acc, t4, hr.ex ((gr.s.trans e4).trans e5)⟩, t3, f3.g, t2⟩, by omega, hc4, hys⟩
          | exc x δ5 => rw [show mBind mt _ δ4 = _ from by unfold mBind; rw [zt]] at hc3; cases hc3
          | bad => rw [show mBind mt _ δ4 = _ from by unfold mBind; rw [zt]] at hc3; cases hc3
        | exc x δ4 => rw [q] at hc3; cases hc3
        | bad => rw [q] at hc3; cases hc3
      · have ei : i = ds.length := by omega
        subst ei
        rw [List.drop_length] at hc3
        have hc4 : Res.ok ([] : List D) δ2 = Res.ok ys2 δf := hc3
        injection hc4 with k1 k2
        subst k1; subst k2
        rw [List.append_nil] at hys
        subst hys
        refine .inl ⟨j2 (List.getElem?_eq_none_iff.mpr (Nat.le_refl _)), ?_⟩
        have rb := re1.back re3 e2 hno hpn
        refine po1 Hs2 H' e2 rb C ⟨f3.at_, f3.hs, f3.g, fun i s q w => ?_⟩
        by_cases hi' : i ∈ vs
        · have z := backE_in hi' q
          rw [z, hno i hi'] at w
          cases w
        · rw [backE_out hi'] at q
          rw [← wipe_out hi']
          exact f3.ne i s q w
    | exc x δf => rw [hcl] at po1; exact po1.elim
    | bad => rw [hcl] at po1; exact po1.elim
  · exact po1.elim
theorem jts_nil : PTs X [] (tOfT X.K E ps mYes) := ⟨fun pins s σ H Q I ⟨W, Hs, δ, hp, re, po⟩ => pts_nil.run pins s σ H Q I (Post.of po re)⟩
theorem jts_one {c : Expr} (h : PT X c (tOfT X.K E ps mt)) : PTs X [c] (tOfT X.K E ps mt) := pts_one h
theorem jo_comp {scope : Scope} {own : List (Str × Nat)} (hgv : ∀ i ∈ gv, i ∈ own.map (·.2)) (hps : ∀ i ∈ own.map (·.2), i ∉ ps) (hc : X.calm = true) (hN : X.N.Nodup) (hi : PI X tg iter (tOfI X.K E ps mi)) (ok : BlkOk X.N X.env.scope scope own)
    (hg : ∀ (s : Shared) (H : Hp) (C : Addr) (cl : List (Str × Addr)) (fp : List Addr), PG (X.blk s H scope (compEnvC scope cl C X.env) fp) tg (gOf X.K noX ps gv g)) (ht : ∀ (s : Shared) (H : Hp) (C : Addr) (cl : List (Str × Addr)) (fp : List Addr), PTs (X.blk s H scope (compEnvC scope cl C X.env) fp) ifs (tOfT X.K noX ps mt))
    (he : ∀ (s : Shared) (H : Hp) (C : Addr) (cl : List (Str × Addr)) (fp : List Addr), PE (X.blk s H scope (compEnvC scope cl C X.env) fp) elt (tOf X.K noX ps me)) (hs : ∀ x, foldedSetIterable iter X.env x = pure x := by intro _; rfl) :
    PE X (.ListComp elt [⟨tg, iter, ifs, 0⟩] scope pos) (tOfO X.K E ps (mComp mi (own.map (·.2)) g mt me)) :=
  pe_imp (pe_lc hc hN hi ok hg ht he hs) fun σ H Q h => lc_read hgv hps h
/-- shared data at last -/
def mFr (m : M (List D)) : M D := mBind m fun xs => mPure (.list xs)
theorem frS {m : M (List D)} {σ : L2.St} {H : Hp} {Q : VK} (h : tOf X.K E ps (mFr m) σ H Q) : tOfO X.K E ps m σ H Q := by
  obtain ⟨W, Hs, δ, hp, re, po⟩ := h
  refine Cf.step hp re po fun xs Hs1 H1 δ1 e1 re1 po1 a fa => ?_
  obtain ⟨Hs2, k1, k2, k3⟩ := re1.freeze fa
  exact po1 Hs2 H1 k1 k2 _ k3
theorem je_fr {m : M (List D)} (h : PE X e (tOfO X.K E ps m)) : PE X e (tOf X.K E ps (mFr m)) := pe_imp h fun σ H Q q => frS q
theorem js_lc {i : Nat} {y : Str} {py : Pos} {scope : Scope} {own : List (Str × Nat)} {spos : Pos} (hips : i ∉ ps) (hgv : ∀ i ∈ gv, i ∈ own.map (·.2)) (hps : ∀ i ∈ own.map (·.2), i ∉ ps) (hc : X.calm = true) (hN : X.N.Nodup) (hy : X.N[i]? = some y) (hyl : X.env.scope.names.lookup y = some .local)
    (hsw : swapsWith (.ListComp elt [⟨tg, iter, ifs, 0⟩] scope pos) (some (.Name y py)) spos.line X.env = pure true) (hi : PI X tg iter (tOfI X.K E ps mi)) (ok : BlkOk X.N X.env.scope scope own)
    (hg : ∀ (s : Shared) (H : Hp) (C : Addr) (cl : List (Str × Addr)) (fp : List Addr), PG (X.blk s H scope (compEnvC scope cl C X.env) fp) tg (gOf X.K noX ps gv g)) (ht : ∀ (s : Shared) (H : Hp) (C : Addr) (cl : List (Str × Addr)) (fp : List Addr), PTs (X.blk s H scope (compEnvC scope cl C X.env) fp) ifs (tOfT X.K noX ps mt))
    (he : ∀ (s : Shared) (H : Hp) (C : Addr) (cl : List (Str × Addr)) (fp : List Addr), PE (X.blk s H scope (compEnvC scope cl C X.env) fp) elt (tOf X.K noX ps me)) (hs : ∀ x, foldedSetIterable iter X.env x = pure x := by intro _; rfl) :
    PS X (.Assign [.Name y py] (.ListComp elt [⟨tg, iter, ifs, 0⟩] scope pos) spos) (tOfS X.K E ps (mSet i (mFr (mComp mi (own.map (·.2)) g mt me)))) :=
  pst_imp (ps_setLc hc hN hy hyl hsw hi ok hg ht he hs) fun B σ H ⟨W, Hs, δ, hp, re, po⟩ => lc_read hgv hps (by
    have po' : PostF X.K E W Hs (mBind (mComp mi (own.map (·.2)) g mt me) (fun xs => fun δ => .ok .nx (δ.set i (.sh (.list xs)))) δ) B := by
      have e : mSet i (mFr (mComp mi (own.map (·.2)) g mt me)) δ = mBind (mComp mi (own.map (·.2)) g mt me) (fun xs => fun δ => .ok .nx (δ.set i (.sh (.list xs)))) δ := by
        unfold mSet mFr mBind mPure
        cases mComp mi (own.map (·.2)) g mt me δ <;> rfl
      rw [← e]; exact po
    refine tOfO.stepS hp re po' fun a xs Hs1 H1 δ1 e1 re1 f1 po1 => ?_
    obtain ⟨Hs2, k1, k2, k3⟩ := re1.freeze f1
    exact PostS.of (PostS.ex po1 k1) (k2.setSh k3 (by rw [hp]; exact hips)))
end
end Dn
namespace Dn
open PySem PySem.Spec PyProof.Rows L2
/-- what is left of the slots behind a def: a caller's own lists -/
def outs (ps : List Nat) (n : Nat) (δ : Env) : Env := (List.range n).map fun i => if i ∈ ps then δ.getD i .no else .no
def fnF (n N : Nat) (ps : List Nat) (mb : M Fl) : Env → Res Sl := fun as => match mb (as ++ List.replicate (N - n) .no) with
  | .ok (.rt s) δ' => .ok s (outs ps n δ')
  | .ok .nx δ' => .ok (.sh .none) (outs ps n δ')
  | .exc x δ' => .exc x (outs ps n δ')
  | _ => .bad
def RetR (K : Frag) (W : Wd) (Hs H : Hp) (σ : L2.St) (δ : Env) (s : Sl) (Q : VK) : Prop := match s with
  | .sh d => ∀ v, Rp K Hs v d → Q v H
  | .ow xs => ∀ a, FrO K W Hs H σ δ a xs → Q (.ref a) H
  | .no => False
/-- what a def promises: F, upon what its parameters hold -/
def spF (K : Frag) (n : Nat) (ps : List Nat) (F : Env → Res Sl) : Sp := fun vs H Q E => vs.length = n ∧ ∃ (W : Wd) (Hs : Hp) (as : Env), W.pn.map (·.1) = ps ∧ RE K W Hs H (vs.map some) as ∧
  match F as with
  | .ok s as' => ∀ Hs' H', Ex Hs Hs' → RE K W Hs' H' (vs.map some) as' → RetR K W Hs' H' (vs.map some) as' s Q
  | .exc x as' => False
  | .bad => False
theorem outs_get {ps : List Nat} {n i : Nat} {δ : Env} {s : Sl} (h : (outs ps n δ)[i]? = some s) (hn : s ≠ .no) : i < n ∧ i ∈ ps ∧ δ[i]? = some s := by
  unfold outs at h
  rw [List.getElem?_map, Option.map_eq_some_iff] at h
  obtain ⟨j, hj, h⟩ := h
  obtain ⟨hi, hj⟩ := List.getElem?_eq_some_iff.mp hj
  rw [List.getElem_range] at hj
  subst hj
  rw [List.length_range] at hi
  by_cases hp : i ∈ ps
  · rw [if_pos hp] at h
    refine ⟨hi, hp, ?_⟩
    rw [List.getD_eq_getElem?_getD] at h
    cases w : δ[i]? with
    | none => rw [w] at h; exact absurd h.symm hn
    | some t => rw [w] at h; exact congrArg some h
  · rw [if_neg hp] at h
    exact absurd h.symm hn
section
variable {K : Frag} {W : Wd} {Hs H Hs' H' : Hp} {σ : L2.St} {δ δ' : Env} {vs : List V} {N n : Nat} {as : Env}
theorem RE.app (r : RE K W Hs H σ δ) (k : Nat) : RE K W Hs H (σ ++ List.replicate k none) (δ ++ List.replicate k .no) where
  ex := r.ex
  fg := r.fg
  len := by simp [r.len]
  sh := fun i d q => by
    by_cases hi : i < δ.length
    · rw [List.getElem?_append_left hi] at q
      rw [List.getElem?_append_left (by rw [r.len]; exact hi)]
      exact r.sh i d q
    · rw [List.getElem?_append_right (by omega), List.getElem?_replicate] at q
      split at q <;> cases q
  ow := fun i s q w => by
    by_cases hi : i < δ.length
    · rw [List.getElem?_append_left hi] at q
      rw [List.getElem?_append_left (by rw [r.len]; exact hi)]
      exact r.ow i s q w
    · rw [List.getElem?_append_right (by omega), List.getElem?_replicate] at q
      split at q
      · cases q; cases w
      · cases q
  ap := fun i j s t a h1 h2 h3 h4 h5 h6 => by
    have f : ∀ {i : Nat} {s : Sl}, (δ ++ List.replicate k Sl.no)[i]? = some s → s.own = true → i < δ.length := fun {i s} q w => by
      by_cases hi : i < δ.length
      · exact hi
      · rw [List.getElem?_append_right (by omega), List.getElem?_replicate] at q
        split at q
        · cases q; cases w
        · cases q
    have li := f h1 h2
    have lj := f h3 h4
    rw [List.getElem?_append_left li] at h1
    rw [List.getElem?_append_left lj] at h3
    rw [List.getElem?_append_left (by rw [r.len]; exact li)] at h5
    rw [List.getElem?_append_left (by rw [r.len]; exact lj)] at h6
    exact r.ap i j s t a h1 h2 h3 h4 h5 h6
  pin := fun p hp => by
    obtain ⟨h1, s, h2, h3⟩ := r.pin p hp
    have l1 := (List.getElem?_eq_some_iff.mp h1).1
    have l2 := (List.getElem?_eq_some_iff.mp h2).1
    exact ⟨by rw [List.getElem?_append_left l1]; exact h1, s, by rw [List.getElem?_append_left l2]; exact h2, h3⟩
/-- behind a def's body -/
theorem RE.outs {ps : List Nat} (r0 : RE K W Hs H (vs.map some) as) (hp : W.pn.map (·.1) = ps) (r : RE K W Hs' H' σ δ) : RE K W Hs' H' (vs.map some) (outs ps vs.length δ) := by
  have f : ∀ {i : Nat} {s : Sl}, (Dn.outs ps vs.length δ)[i]? = some s → s ≠ .no → δ[i]? = some s ∧ (vs.map some)[i]? = σ[i]? ∧ s.own = true := fun {i s} q hn => by
    obtain ⟨h1, h2, h3⟩ := outs_get q hn
    rw [← hp] at h2
    obtain ⟨p, hpm, hpe⟩ := List.mem_map.mp h2
    obtain ⟨a1, _⟩ := r0.pin p hpm
    obtain ⟨b1, s', b2, b3⟩ := r.pin p hpm
    rw [hpe] at a1 b1 b2
    rw [h3] at b2
    cases b2
    exact ⟨h3, a1.trans b1.symm, b3⟩
  exact {
    ex := r.ex
    fg := r.fg
    len := by simp [Dn.outs]
    sh := fun i d q => by
      obtain ⟨h1, h2, h3⟩ := f q (by simp)
      cases h3
    ow := fun i s q w => by
      obtain ⟨h1, h2, h3⟩ := f q (by rintro rfl; cases w)
      rw [h2]
      exact r.ow i s h1 w
    ap := fun i j s t a h1 h2 h3 h4 h5 h6 => by
      obtain ⟨a1, a2, _⟩ := f h1 (by rintro rfl; cases h2)
      obtain ⟨b1, b2, _⟩ := f h3 (by rintro rfl; cases h4)
      rw [a2] at h5
      rw [b2] at h6
      exact r.ap i j s t a a1 h2 b1 h4 h5 h6
    pin := fun p hpm => by
      obtain ⟨a1, _⟩ := r0.pin p hpm
      obtain ⟨b1, s', b2, b3⟩ := r.pin p hpm
      refine ⟨a1, s', ?_, b3⟩
      have hl : p.1 < vs.length := by
        have := (List.getElem?_eq_some_iff.mp a1).1
        simpa using this
      unfold Dn.outs
      rw [List.getElem?_map, List.getElem?_range hl]
      have hm : p.1 ∈ ps := by rw [← hp]; exact List.mem_map_of_mem hpm
      simp only [Option.map_some, if_pos hm]
      rw [List.getD_eq_getElem?_getD, b2]
      rfl }
theorem FrO.outs {ps : List Nat} {a : Addr} {xs : List D} (r0 : RE K W Hs H (vs.map some) as) (hp : W.pn.map (·.1) = ps) (r : RE K W Hs' H' σ δ) (f : FrO K W Hs' H' σ δ a xs) : FrO K W Hs' H' (vs.map some) (Dn.outs ps vs.length δ) a xs :=
  ⟨f.at_, f.hs, f.g, fun i s q w => by
    obtain ⟨h1, h2, h3⟩ := outs_get q (by rintro rfl; cases w)
    rw [← hp] at h2
    obtain ⟨p, hpm, hpe⟩ := List.mem_map.mp h2
    obtain ⟨a1, _⟩ := r0.pin p hpm
    obtain ⟨b1, _⟩ := r.pin p hpm
    rw [hpe] at a1 b1
    rw [a1, ← b1]
    exact f.ne i s h3 w⟩
end
section
variable {P : Program} {w : World} {K : Frag} {mg : Str → Option Value} {base : Heap}
/-- a def keeps its promise: by its body as a run upon data -/
theorem fn_J {x qual : Str} {st : Stmt} {f : Addr} {fd : FuncData} {N pr : List Str} {k n nN : Nat} {ps : List Nat} {mb : M Fl} (F : Fun K x qual st f fd) (S : FnScope N pr (defScope st)) (hn : pr.length = n) (hN : N.length = nN) (hle : n ≤ nN)
    (hbody : ∀ (cdv : Value) (A : Around) (outer : List PySem.Env) (s : Shared) (H : Hp) (E : XK), Room k (A.deeper (envOfC qual (defScope st) s.heap.objs.size f cdv)) →
      PSs (cxOf CX0 P w K mg base N qual (defScope st) f cdv A outer s H E).nox (defBody st) (tOfS K noX ps mb)) : FnOk P w K mg base CX0 (k + 1) f fd pr (spF K n ps (fnF n nN ps mb)) := by
  refine F.ok S (fun vs H Q E h => by rw [h.1, hn]) fun cdv A outer s H vs Q E hr h => ⟨_, hbody cdv A outer s H E hr, ?_⟩
  obtain ⟨hl, W, Hs, as, hp, re, po⟩ := h
  have hst : L2.start N vs = vs.map some ++ List.replicate (nN - n) none := by unfold L2.start; rw [hN, hl]
  refine ⟨W, Hs, as ++ List.replicate (nN - n) .no, hp, by rw [hst]; exact re.app _, ?_⟩
  unfold fnF at po
  cases q : mb (as ++ List.replicate (nN - n) .no) with
  | ok fl δ' =>
    rw [q] at po
    cases fl with
    | nx =>
      intro σ' Hs' H' e r
      have hr' := re.outs hp r
      rw [hl] at hr'
      exact po Hs' H' e hr' .non .non
    | rt sl =>
      cases sl with
      | sh d =>
        intro σ' Hs' H' e r v rv
        have hr' := re.outs hp r
        rw [hl] at hr'
        exact po Hs' H' e hr' v rv
      | ow xs =>
        intro σ' Hs' H' e r a fa
        have hr' := re.outs hp r
        have hf := FrO.outs re hp r fa
        rw [hl] at hr' hf
        exact po Hs' H' e hr' a hf
      | no =>
        intro σ' Hs' H' e r
        have hr' := re.outs hp r
        rw [hl] at hr'
        exact po Hs' H' e hr'
    | bk => exact po.elim
    | ct => exact po.elim
  | exc x δ' => rw [q] at po; exact po.elim
  | bad => rw [q] at po; exact po.elim
end
def agSl (δ : Env) : Ag → Sl
  | .sh d => .sh d
  | .ow i => δ.getD i .no
def ownAt : Nat → List Ag → List Nat
  | _, [] => []
  | k, .sh _ :: gs => ownAt (k + 1) gs
  | k, .ow _ :: gs => k :: ownAt (k + 1) gs
def ownIx : List Ag → List Nat
  | [] => []
  | .sh _ :: gs => ownIx gs
  | .ow i :: gs => i :: ownIx gs
def putBack (δ : Env) : List Ag → List Sl → Env
  | .ow i :: gs, s :: ss => (putBack δ gs ss).set i s
  | .sh _ :: gs, _ :: ss => putBack δ gs ss
  | _, _ => δ
def callF (n : Nat) (ps : List Nat) (F : Env → Res Sl) (gs : List Ag) : M Sl := fun δ =>
  if gs.length = n ∧ ownAt 0 gs = ps ∧ (ownIx gs).Nodup ∧ ((ownIx gs).all fun i => (δ.getD i .no).own) = true then
    match F (gs.map (agSl δ)) with
    | .ok s as' => .ok s (putBack δ gs as')
    | _ => .bad
  else .bad
def mCall (n : Nat) (ps : List Nat) (F : Env → Res Sl) (as : List AM) : M Sl := mBind (evA as) (callF n ps F)
end Dn
namespace Dn
open PySem PySem.Spec PyProof.Rows L2
theorem AgR.len {K : Frag} {Hs : Hp} {σ : L2.St} : ∀ {vs : List V} {gs : List Ag}, AgR K Hs σ vs gs → vs.length = gs.length
  | [], [], _ => rfl
  | [], _ :: _, h => h.elim
  | _ :: _, [], h => h.elim
  | _ :: _, .sh _ :: _, h => by rw [List.length_cons, List.length_cons, AgR.len h.2]
  | _ :: _, .ow _ :: _, h => by rw [List.length_cons, List.length_cons, AgR.len h.2]
section
variable {X : Cx} {E : XQ} {ps : List Nat} {e : Expr} {es : List Expr} {pos : Pos} {as : List AM} {k n : Nat} {f : Addr} {fd : FuncData} {pr : List Str} {qs : List Nat} {F : Env → Res Sl} {x : Str} {p : Pos}
theorem bind_assoc {α β γ : Type} (m : M α) (f : α → M β) (g : β → M γ) : mBind (mBind m f) g = mBind m fun a => mBind (f a) g := by
  funext δ
  unfold mBind
  cases m δ <;> rfl
end
end Dn
namespace Dn
open PySem PySem.Spec PyProof.Rows L2
@[irreducible] def Run {α : Type} (m : M α) (δ : Env) (Q : α → Env → Prop) : Prop := match m δ with
  | .ok a δ' => Q a δ'
  | _ => False
@[irreducible] def FRun (F : Env → Res Sl) (as : Env) (Q : Sl → Env → Prop) : Prop := match F as with
  | .ok s as' => Q s as'
  | _ => False
section
variable {α β : Type} {δ δ1 : Env} {m : M D}
theorem Run.i {m : M α} {Q : α → Env → Prop} (h : match m δ with
  | .ok a δ' => Q a δ'
  | _ => False) : Run m δ Q := by unfold Run; exact h
theorem run_pure {a : α} {Q : α → Env → Prop} (h : Q a δ) : Run (mPure a) δ Q := Run.i h
theorem Run.mono {m : M α} {Q Q' : α → Env → Prop} (h : Run m δ Q) (k : ∀ a e, Q a e → Q' a e) : Run m δ Q' := by
  unfold Run at *
  cases q : m δ with
  | ok a e => rw [q] at h; exact k a e h
  | exc x e => rw [q] at h; exact h
  | bad => rw [q] at h; exact h
theorem FRun.mono {F : Env → Res Sl} {as : Env} {Q Q' : Sl → Env → Prop} (h : FRun F as Q) (k : ∀ a e, Q a e → Q' a e) : FRun F as Q' := by
  unfold FRun at *
  cases q : F as with
  | ok a e => rw [q] at h; exact k a e h
  | exc x e => rw [q] at h; exact h
  | bad => rw [q] at h; exact h
theorem FRun.of {F : Env → Res Sl} {as as' : Env} {s : Sl} {Q : Sl → Env → Prop} (h : F as = .ok s as') (k : Q s as') : FRun F as Q := by
  unfold FRun
  rw [h]
  exact k
theorem FRun.to {F : Env → Res Sl} {as : Env} {Q : Sl → Env → Prop} (h : FRun F as Q) : ∃ s as', F as = .ok s as' ∧ Q s as' := by
  unfold FRun at h
  cases q : F as with
  | ok a e => rw [q] at h; exact ⟨a, e, rfl, h⟩
  | exc x e => rw [q] at h; exact h.elim
  | bad => rw [q] at h; exact h.elim
theorem run_bind {m : M α} {f : α → M β} {Q : β → Env → Prop} (h : Run m δ fun a e => Run (f a) e Q) : Run (mBind m f) δ Q := by
  unfold Run at *
  unfold mBind
  cases q : m δ with
  | ok a e => rw [q] at h; exact h
  | exc x e => rw [q] at h; exact h
  | bad => rw [q] at h; exact h
theorem run_opt {o : Option α} {Q : α → Env → Prop} (h : ∃ a, o = some a ∧ Q a δ) : Run (mOpt o) δ Q := by
  obtain ⟨a, h1, h2⟩ := h
  subst h1
  exact Run.i h2
theorem run_var {i : Nat} {d : D} {Q : D → Env → Prop} (h : δ[i]? = some (Sl.sh d)) (k : Q d δ) : Run (mVar i) δ Q := by
  unfold Run mVar
  rw [h]
  exact k
theorem run_c {d : D} {Q : D → Env → Prop} (k : Q d δ) : Run (mC d) δ Q := run_pure k
theorem run_own {i : Nat} {xs : List D} {Q : List D → Env → Prop} (h : δ[i]? = some (Sl.ow xs)) (k : Q xs δ) : Run (mOwn i) δ Q := by
  unfold Run mOwn
  rw [h]
  exact k
theorem run_bin {g : D → D → Option D} {ma mb : M D} {Q : D → Env → Prop} (h : Run ma δ fun d e1 => Run mb e1 fun e e2 => ∃ c, g d e = some c ∧ Q c e2) : Run (mBin g ma mb) δ Q :=
  run_bind (h.mono fun _ _ h => run_bind (h.mono fun _ _ h => run_opt h))
theorem run_test {Q : Bool → Env → Prop} (h : Run m δ fun d e => ∃ b, toB d = some b ∧ Q b e) : Run (mTest m) δ Q := run_bind (h.mono fun _ _ h => run_opt h)
theorem run_chain {g g' : D → D → Option D} {ma mb mc : M D} {Q : D → Env → Prop} (h : Run ma δ fun d e1 => Run mb e1 fun e e2 => ∃ c, g d e = some c ∧ ∃ b, toB c = some b ∧ (b = true → Run mc e2 fun f e3 => ∃ c, g' e f = some c ∧ Q c e3) ∧ (b = false → Q (.bool false) e2)) : Run (mChain g g' ma mb mc) δ Q :=
  run_bind (h.mono fun d _ h => run_bind (h.mono fun e _ ⟨c, h1, b, h2, h3, h4⟩ => run_bind (run_opt ⟨b, by rw [h1]; exact h2, by
    cases b with
    | true => exact run_bind ((h3 rfl).mono fun _ _ h => run_opt h)
    | false => exact run_pure (h4 rfl)⟩)))
theorem run_ag0 {Q : List Ag → Env → Prop} (k : Q [] δ) : Run (evA []) δ Q := Run.i k
theorem run_callB {g : List D → Option D} {as : List AM} {Q : D → Env → Prop} (h : Run (evA as) δ fun gs e => ∃ ds, shs gs = some ds ∧ ∃ c, g ds = some c ∧ Q c e) : Run (mCallB g as) δ Q :=
  run_bind (h.mono fun gs _ ⟨ds, h1, c, h2, h3⟩ => run_opt ⟨c, by rw [h1]; exact h2, h3⟩)
theorem run_isi {T : String} {Q : D → Env → Prop} (h : Run m δ fun d e => ∃ b, kitB (tyD d) T = some b ∧ Q (.bool b) e) : Run (mIsi T m) δ Q :=
  run_bind (h.mono fun d _ ⟨b, h1, h2⟩ => run_opt ⟨_, by rw [h1]; rfl, h2⟩)
theorem run_m1 {g : Str → List D → Option D} {mo : M D} {Q : D → Env → Prop} (h : Run mo δ fun d e1 => ∃ z, toS d = some z ∧ Run m e1 fun e e2 => ∃ c, g z [e] = some c ∧ Q c e2) : Run (mM1 g mo m) δ Q :=
  run_bind (h.mono fun _ _ ⟨z, h1, h2⟩ => run_bind (run_opt ⟨z, h1, run_bind (h2.mono fun _ _ h => run_opt h)⟩))
theorem run_shs {as : List AM} {Q : List D → Env → Prop} (h : Run (evA as) δ fun gs e => ∃ ds, shs gs = some ds ∧ ds.length ≤ sizeLine ∧ Q ds e) : Run (mShs as) δ Q :=
  run_bind (h.mono fun gs _ ⟨ds, h1, h2, h3⟩ => run_opt ⟨ds, by rw [h1]; simp [Option.filter, h2], h3⟩)
theorem run_tup {as : List AM} {Q : D → Env → Prop} (h : Run (evA as) δ fun gs e => ∃ ds, shs gs = some ds ∧ ds.length ≤ sizeLine ∧ Q (.tuple ds) e) : Run (mTup as) δ Q := run_bind (run_shs (h.mono fun _ _ ⟨ds, h1, h2, h3⟩ => ⟨ds, h1, h2, Run.i h3⟩))
theorem run_lst {as : List AM} {Q : D → Env → Prop} (h : Run (evA as) δ fun gs e => ∃ ds, shs gs = some ds ∧ ds.length ≤ sizeLine ∧ Q (.list ds) e) : Run (mLst as) δ Q := run_bind (run_shs (h.mono fun _ _ ⟨ds, h1, h2, h3⟩ => ⟨ds, h1, h2, Run.i h3⟩))
theorem run_ifb {b : Bool} {m1 m2 : M α} {Q : α → Env → Prop} (h1 : b = true → Run m1 δ Q) (h2 : b = false → Run m2 δ Q) : Run (if b = true then m1 else m2) δ Q := by
  cases b with
  | true => exact h1 rfl
  | false => exact h2 rfl
theorem run_andT {t1 t2 : M Bool} {Q : Bool → Env → Prop} (h : Run t1 δ fun b e => (b = true → Run t2 e Q) ∧ (b = false → Q false e)) : Run (mAndT t1 t2) δ Q := run_bind (h.mono fun b e h => run_ifb h.1 fun z => Run.i (h.2 z))
theorem run_orT {t1 t2 : M Bool} {Q : Bool → Env → Prop} (h : Run t1 δ fun b e => (b = true → Q true e) ∧ (b = false → Run t2 e Q)) : Run (mOrT t1 t2) δ Q := run_bind (h.mono fun b e h => run_ifb (fun z => Run.i (h.1 z)) h.2)
theorem run_notT {t : M Bool} {Q : Bool → Env → Prop} (h : Run t δ fun b e => Q (!b) e) : Run (mNotT t) δ Q := run_bind (h.mono fun _ _ h => Run.i h)
theorem run_andV {m1 m2 : M D} {Q : D → Env → Prop} (h : Run m1 δ fun d e => ∃ b, toB d = some b ∧ (b = true → Run m2 e Q) ∧ (b = false → Q (.bool false) e)) : Run (mAndV m1 m2) δ Q := run_bind (run_test (h.mono fun _ _ ⟨b, h1, h2, h3⟩ => ⟨b, h1, run_ifb h2 fun z => Run.i (h3 z)⟩))
theorem run_orV {m1 m2 : M D} {Q : D → Env → Prop} (h : Run m1 δ fun d e => ∃ b, toB d = some b ∧ (b = true → Q (.bool true) e) ∧ (b = false → Run m2 e Q)) : Run (mOrV m1 m2) δ Q := run_bind (run_test (h.mono fun _ _ ⟨b, h1, h2, h3⟩ => ⟨b, h1, run_ifb (fun z => Run.i (h2 z)) h3⟩))
theorem run_notV {Q : D → Env → Prop} (h : Run m δ fun d e => ∃ b, toB d = some b ∧ Q (.bool (!b)) e) : Run (mNotV m) δ Q := run_bind (run_test (h.mono fun _ _ ⟨b, h1, h2⟩ => ⟨b, h1, Run.i h2⟩))
theorem run_ifE {t : M Bool} {m1 m2 : M D} {Q : D → Env → Prop} (h : Run t δ fun b e => (b = true → Run m1 e Q) ∧ (b = false → Run m2 e Q)) : Run (mIfE t m1 m2) δ Q := run_bind (h.mono fun b e h => run_ifb h.1 h.2)
theorem run_neg {Q : D → Env → Prop} (h : Run m δ fun d e => ∃ c, dNeg d = some c ∧ Q c e) : Run (mNeg m) δ Q := run_bind (h.mono fun _ _ h => run_opt h)
theorem run_sl {ml mh : M (Option Int)} {Q : D → Env → Prop} (h : Run m δ fun d e => Run ml e fun l e1 => Run mh e1 fun u e2 => ∃ c, dSl d l u = some c ∧ Q c e2) : Run (mSl m ml mh) δ Q := run_bind (h.mono fun _ _ h => run_bind (h.mono fun _ _ h => run_bind (h.mono fun _ _ h => run_opt h)))
theorem run_part {Q : Option Int → Env → Prop} (h : Run m δ fun d e => ∃ c, toI d = some c ∧ Q c e) : Run (mPart m) δ Q := run_bind (h.mono fun _ _ h => run_opt h)
theorem run_noPart {Q : Option Int → Env → Prop} (h : Q none δ) : Run mNoPart δ Q := Run.i h
theorem run_nx {Q : Fl → Env → Prop} (h : Q .nx δ) : Run mNx δ Q := Run.i h
theorem run_seq {m1 m2 : M Fl} {Q : Fl → Env → Prop} (h : Run m1 δ fun fl e => (fl = .nx → Run m2 e Q) ∧ (fl ≠ .nx → Q fl e)) : Run (mSeq m1 m2) δ Q := by
  unfold Run at *
  unfold mSeq
  cases q : m1 δ with
  | ok fl e =>
    rw [q] at h
    cases fl with
    | nx => exact h.1 rfl
    | rt s => exact h.2 (by simp)
    | bk => exact h.2 (by simp)
    | ct => exact h.2 (by simp)
  | exc x e => rw [q] at h; exact h
  | bad => rw [q] at h; exact h
theorem run_expr {Q : Fl → Env → Prop} (h : Run m δ fun _ e => Q .nx e) : Run (mExpr m) δ Q := run_bind (h.mono fun _ _ h => Run.i h)
theorem run_ret {Q : Fl → Env → Prop} (h : Run m δ fun d e => Q (.rt (.sh d)) e) : Run (mRet m) δ Q := run_bind (h.mono fun _ _ h => Run.i h)
theorem run_ifS {t : M Bool} {m1 m2 : M Fl} {Q : Fl → Env → Prop} (h : Run t δ fun b e => (b = true → Run m1 e Q) ∧ (b = false → Run m2 e Q)) : Run (mIfS t m1 m2) δ Q := run_bind (h.mono fun b e h => run_ifb h.1 h.2)
theorem run_set {i : Nat} {Q : Fl → Env → Prop} (h : Run m δ fun d e => Q .nx (e.set i (.sh d))) : Run (mSet i m) δ Q := run_bind (h.mono fun _ _ h => Run.i h)
theorem run_setIx {k : Nat} {mi me : M D} {Q : Fl → Env → Prop} (h : Run me δ fun d e1 => ∃ xs, e1[k]? = some (Sl.ow xs) ∧ Run mi e1 fun e e2 => ∃ n, toI e = some (some n) ∧ ∃ ys, e2[k]? = some (Sl.ow ys) ∧ ∃ j, ixN ys.length n = some j ∧ Q .nx (e2.set k (.ow (ys.set j d)))) : Run (mSetIx k mi me) δ Q :=
  run_bind (h.mono fun _ _ ⟨xs, h1, h2⟩ => run_bind (run_own h1 (run_bind (h2.mono fun _ _ ⟨n, h3, ys, h4, j, h5, h6⟩ => run_bind (run_own h4 (run_bind (run_opt ⟨some n, h3, run_bind (run_opt ⟨j, h5, Run.i h6⟩)⟩)))))))
theorem run_app {k : Nat} {me : M D} {xs : List D} {Q : Fl → Env → Prop} (hx : δ[k]? = some (Sl.ow xs)) (h : Run me δ fun d e1 => ∃ ys, e1[k]? = some (Sl.ow ys) ∧ ys.length < sizeLine ∧ Q .nx (e1.set k (.ow (ys ++ [d])))) : Run (mApp k me) δ Q :=
  run_bind (run_own hx (run_bind (h.mono fun _ _ ⟨ys, h1, h2, h3⟩ => run_bind (run_own h1 (run_bind (run_opt ⟨(), if_pos h2, Run.i h3⟩))))))
theorem run_asg {g : D → M Unit} {Q : Fl → Env → Prop} (h : Run m δ fun d e => ∃ e', g d e = .ok () e' ∧ Q .nx e') : Run (mAsg g m) δ Q :=
  run_bind (h.mono fun _ _ ⟨e', h1, h2⟩ => by unfold Run; simp only [h1]; exact h2)
theorem run_iter {Q : List D → Env → Prop} (h : Run m δ fun d e => ∃ ds, dItems d = some ds ∧ Q ds e) : Run (mIter m) δ Q := run_bind (h.mono fun _ _ h => run_opt h)
theorem run_rng1 {Q : List D → Env → Prop} (h : Run m δ fun d e => ∃ ds, bRng1 d = some ds ∧ Q ds e) : Run (mRng1 m) δ Q := run_bind (h.mono fun _ _ h => run_opt h)
theorem run_rng2 {ma mb : M D} {Q : List D → Env → Prop} (h : Run ma δ fun d e1 => Run mb e1 fun e e2 => ∃ ds, bRng2 d e = some ds ∧ Q ds e2) : Run (mRng2 ma mb) δ Q := run_bind (h.mono fun _ _ h => run_bind (h.mono fun _ _ h => run_opt h))
theorem run_for {mi : M (List D)} {g : D → M Unit} {mb : M Fl} {Q : Fl → Env → Prop} (h : Run mi δ fun ds e => Run (forL g mb ds) e Q) : Run (mFor mi g mb) δ Q := run_bind h
theorem run_fr {m : M (List D)} {Q : D → Env → Prop} (h : Run m δ fun xs e => Q (.list xs) e) : Run (mFr m) δ Q := run_bind (h.mono fun _ _ h => Run.i h)
/-- a loop by what holds ahead of each turn -/
theorem run_forL {g : D → M Unit} {mb : M Fl} {Q : Fl → Env → Prop} (ds : List D) (I : Nat → Env → Prop) (h0 : I 0 δ)
    (hs : ∀ (i : Nat) (d : D) (e : Env), ds[i]? = some d → I i e → ∃ e1, g d e = .ok () e1 ∧ Run mb e1 fun fl e2 => (fl = .nx ∨ fl = .ct → I (i + 1) e2) ∧ (fl = .bk → Q .nx e2) ∧ (∀ s, fl = .rt s → Q (.rt s) e2))
    (hd : ∀ e, I ds.length e → Q .nx e) : Run (forL g mb ds) δ Q := by
  suffices H : ∀ (k i : Nat) (e : Env), i + k = ds.length → I i e → Run (forL g mb (ds.drop i)) e Q by
    have := H ds.length 0 δ (by omega) h0
    rwa [List.drop_zero] at this
  intro k
  induction k with
  | zero =>
    intro i e hi hI
    have e' : i = ds.length := by omega
    subst e'
    rw [List.drop_length]
    exact Run.i (hd e hI)
  | succ k ih =>
    intro i e hi hI
    have hlt : i < ds.length := by omega
    obtain ⟨e1, h1, h2⟩ := hs i ds[i] e (List.getElem?_eq_getElem hlt) hI
    rw [List.drop_eq_getElem_cons hlt]
    unfold Run forL
    rw [h1]
    unfold Run at h2
    dsimp only
    cases q : mb e1 with
    | ok fl e2 =>
      rw [q] at h2
      obtain ⟨a1, a2, a3⟩ := h2
      cases fl with
      | nx => have z := ih (i + 1) e2 (by omega) (a1 (.inl rfl)); unfold Run at z; exact z
      | ct => have z := ih (i + 1) e2 (by omega) (a1 (.inr rfl)); unfold Run at z; exact z
      | bk => exact a2 rfl
      | rt s => exact a3 s rfl
    | exc x e2 => rw [q] at h2; exact h2
    | bad => rw [q] at h2; exact h2
/-- a comprehension by what holds ahead of each turn: J i ys e, with the items made so far -/
theorem run_comp {mi : M (List D)} {vs : List Nat} {g : D → M Unit} {mt : M Bool} {me : M D} {Q : List D → Env → Prop}
    (h : Run mi δ fun ds e => (vs.all fun i => !(e.getD i .no).own) = true ∧ ds.length ≤ sizeLine ∧ Run (compL vs g mt me ds) (wipeE e vs) fun ys e2 => Q ys (backE e e2 vs)) : Run (mComp mi vs g mt me) δ Q :=
  run_bind (h.mono fun ds e ⟨h1, h2, h3⟩ => by
    unfold Run compE
    rw [if_pos ⟨h1, h2⟩]
    unfold Run at h3
    cases q : compL vs g mt me ds (wipeE e vs) with
    | ok ys e2 => rw [q] at h3; exact h3
    | exc x e2 => rw [q] at h3; exact h3
    | bad => rw [q] at h3; exact h3)
theorem run_compL {vs : List Nat} {g : D → M Unit} {mt : M Bool} {me : M D} (ds : List D) (J : Nat → List D → Env → Prop) {Q : List D → Env → Prop} (h0 : J 0 [] δ)
    (hs : ∀ (i : Nat) (d : D) (ys : List D) (e : Env), ds[i]? = some d → J i ys e → ∃ e1, g d e = .ok () e1 ∧ Run mt e1 fun b e2 => (b = true → Run me e2 fun y e3 => J (i + 1) (ys ++ [y]) (wipeE e3 vs)) ∧ (b = false → J (i + 1) ys (wipeE e2 vs)))
    (hd : ∀ ys e, J ds.length ys e → Q ys e) : Run (compL vs g mt me ds) δ Q := by
  suffices H : ∀ (k i : Nat) (ys : List D) (e : Env), i + k = ds.length → J i ys e → Run (compL vs g mt me (ds.drop i)) e fun zs e2 => Q (ys ++ zs) e2 by
    have := H ds.length 0 [] δ (by omega) h0
    rw [List.drop_zero] at this
    exact this.mono fun _ _ h => h
  intro k
  induction k with
  | zero =>
    intro i ys e hi hJ
    have e' : i = ds.length := by omega
    subst e'
    rw [List.drop_length]
    refine Run.i ?_
    show Q (ys ++ []) e
    rw [List.append_nil]
    exact hd ys e hJ
  | succ k ih =>
    intro i ys e hi hJ
    have hlt : i < ds.length := by omega
    obtain ⟨e1, h1, h2⟩ := hs i ds[i] ys e (List.getElem?_eq_getElem hlt) hJ
    rw [List.drop_eq_getElem_cons hlt]
    have z : Run (mBind mt (fun b => if b then mBind me (fun y => mBind (mWipe vs) fun _ => mBind (compL vs g mt me (ds.drop (i + 1))) fun ys => mPure (y :: ys)) else mBind (mWipe vs) fun _ => compL vs g mt me (ds.drop (i + 1)))) e1 fun zs e2 => Q (ys ++ zs) e2 := by
      refine run_bind (h2.mono fun b e2 h => run_ifb (fun hb => ?_) fun hb => ?_)
      · refine run_bind ((h.1 hb).mono fun y e3 hJ' => run_bind (Run.i ?_))
        show Run (mBind (compL vs g mt me (ds.drop (i + 1))) fun ys => mPure (y :: ys)) (wipeE e3 vs) _
        refine run_bind ((ih (i + 1) _ _ (by omega) hJ').mono fun zs e4 q => Run.i ?_)
        show Q (ys ++ (y :: zs)) e4
        rw [List.append_assoc] at q
        exact q
      · refine run_bind (Run.i ?_)
        show Run (compL vs g mt me (ds.drop (i + 1))) (wipeE e2 vs) _
        exact ih (i + 1) _ _ (by omega) (h.2 hb)
    unfold Run at z ⊢
    unfold compL
    rw [h1]
    exact z
/-- a def, by its body -/
theorem frun_fn {n N : Nat} {ps : List Nat} {mb : M Fl} {as : Env} {Q : Sl → Env → Prop} (h : Run mb (as ++ List.replicate (N - n) .no) fun fl e => (fl = .nx → Q (.sh .none) (outs ps n e)) ∧ (∀ s, fl = .rt s → Q s (outs ps n e)) ∧ fl ≠ .bk ∧ fl ≠ .ct) : FRun (fnF n N ps mb) as Q := by
  unfold FRun fnF
  unfold Run at h
  cases q : mb (as ++ List.replicate (N - n) .no) with
  | ok fl e =>
    rw [q] at h
    obtain ⟨h1, h2, h3, h4⟩ := h
    cases fl with
    | nx => exact h1 rfl
    | rt s => exact h2 s rfl
    | bk => exact (h3 rfl).elim
    | ct => exact (h4 rfl).elim
  | exc x e => rw [q] at h; exact h
  | bad => rw [q] at h; exact h
end
end Dn
namespace Dn
open PySem PySem.Spec PyProof.Rows L2 TL
@[reducible] def isStr : D → Bool
  | .str _ => true
  | _ => false
section
variable {Q : D → Prop} {i j : Int} {x y : Str} {xs ys : List D} {d e : D}
theorem bx_add_int (h : Q (.int (i + j))) : ∃ c, dAdd (.int i) (.int j) = some c ∧ Q c := ⟨_, rfl, h⟩
theorem bx_add_str (hl : x.length + y.length ≤ sizeLine) (h : Q (.str (x ++ y))) : ∃ c, dAdd (.str x) (.str y) = some c ∧ Q c := ⟨_, if_pos hl, h⟩
theorem bx_add_tup (hl : xs.length + ys.length ≤ sizeLine) (h : Q (.tuple (xs ++ ys))) : ∃ c, dAdd (.tuple xs) (.tuple ys) = some c ∧ Q c := ⟨_, if_pos hl, h⟩
theorem bx_add_lst (hl : xs.length + ys.length ≤ sizeLine) (h : Q (.list (xs ++ ys))) : ∃ c, dAdd (.list xs) (.list ys) = some c ∧ Q c := ⟨_, if_pos hl, h⟩
theorem bx_sub (h : Q (.int (i - j))) : ∃ c, dSub (.int i) (.int j) = some c ∧ Q c := ⟨_, rfl, h⟩
theorem bx_mul (hc : (-(2 ^ 64) < i ∧ i < 2 ^ 64) ∨ (-(2 ^ 64) < j ∧ j < 2 ^ 64)) (h : Q (.int (i * j))) : ∃ c, dMul (.int i) (.int j) = some c ∧ Q c := ⟨_, if_pos hc, h⟩
theorem bx_rep (hc : -1000000 ≤ j ∧ j ≤ 1000000 ∧ x.length ≤ 16) (h : Q (.str (strRep x j))) : ∃ c, dMul (.str x) (.int j) = some c ∧ Q c := ⟨_, if_pos hc, h⟩
theorem bx_mod (hc : 0 < j) (h : Q (.int (i % j))) : ∃ c, dMod (.int i) (.int j) = some c ∧ Q c := ⟨_, if_pos (decide_eq_true hc), h⟩
theorem bx_div (hc : 0 < j ∧ j < 4611686018427387904) (h : Q (.int (i / j))) : ∃ c, dDiv (.int i) (.int j) = some c ∧ Q c := ⟨_, if_pos (decide_eq_true hc), h⟩
theorem bx_pow (hc : 0 ≤ j ∧ j ≤ 1000000 ∧ i.natAbs < 2 ^ 64) (h : Q (.int (i ^ j.toNat))) : ∃ c, dPow (.int i) (.int j) = some c ∧ Q c := ⟨_, if_pos (decide_eq_true hc), h⟩
theorem bx_eq_str (h : Q (.bool (decide (x = y)))) : ∃ c, dEq (.str x) (.str y) = some c ∧ Q c := ⟨_, rfl, h⟩
theorem bx_ne_str (h : Q (.bool (!decide (x = y)))) : ∃ c, dNe (.str x) (.str y) = some c ∧ Q c := ⟨_, rfl, h⟩
theorem dEqB_of (hn : isStr d = false ∨ isStr e = false) (h1 : SeqAt.shaped d = true) (h2 : SeqAt.shaped e = true) : dEqB d e = some (PyData.eqv d e) := by
  have z : (if SeqAt.shaped d = true ∧ SeqAt.shaped e = true then some (PyData.eqv d e) else none) = some (PyData.eqv d e) := if_pos ⟨h1, h2⟩
  cases d <;> first | exact z | (cases e <;> first | exact z | (rcases hn with hn | hn <;> cases hn))
theorem bx_eq (hn : isStr d = false ∨ isStr e = false) (h1 : SeqAt.shaped d = true) (h2 : SeqAt.shaped e = true) (h : Q (.bool (PyData.eqv d e))) : ∃ c, dEq d e = some c ∧ Q c := ⟨_, by unfold dEq; rw [dEqB_of hn h1 h2]; rfl, h⟩
theorem bx_ne (hn : isStr d = false ∨ isStr e = false) (h1 : SeqAt.shaped d = true) (h2 : SeqAt.shaped e = true) (h : Q (.bool (!PyData.eqv d e))) : ∃ c, dNe d e = some c ∧ Q c := ⟨_, by unfold dNe; rw [dEqB_of hn h1 h2]; rfl, h⟩
theorem eqv_int : PyData.eqv (.int i) (.int j) = decide (i = j) := by by_cases h : i = j <;> simp [PyData.eqv, h]
theorem eqv_bl {a b : Bool} : PyData.eqv (.bool a) (.bool b) = decide (a = b) := by cases a <;> cases b <;> rfl
theorem bx_eq_int (h : Q (.bool (decide (i = j)))) : ∃ c, dEq (.int i) (.int j) = some c ∧ Q c := bx_eq (.inl rfl) rfl rfl (by rw [eqv_int]; exact h)
theorem bx_eq_bl {a b : Bool} (h : Q (.bool (decide (a = b)))) : ∃ c, dEq (.bool a) (.bool b) = some c ∧ Q c := bx_eq (.inl rfl) rfl rfl (by rw [eqv_bl]; exact h)
theorem bx_ne_int (h : Q (.bool (!decide (i = j)))) : ∃ c, dNe (.int i) (.int j) = some c ∧ Q c := bx_ne (.inl rfl) rfl rfl (by rw [eqv_int]; exact h)
theorem bx_ne_bl {a b : Bool} (h : Q (.bool (!decide (a = b)))) : ∃ c, dNe (.bool a) (.bool b) = some c ∧ Q c := bx_ne (.inl rfl) rfl rfl (by rw [eqv_bl]; exact h)
theorem bx_lt (h : Q (.bool (decide (i < j)))) : ∃ c, dLt (.int i) (.int j) = some c ∧ Q c := ⟨_, rfl, h⟩
theorem bx_le (h : Q (.bool (decide (i ≤ j)))) : ∃ c, dLe (.int i) (.int j) = some c ∧ Q c := ⟨_, rfl, h⟩
theorem bx_gt (h : Q (.bool (decide (j < i)))) : ∃ c, dGt (.int i) (.int j) = some c ∧ Q c := ⟨_, rfl, h⟩
theorem bx_ge (h : Q (.bool (decide (j ≤ i)))) : ∃ c, dGe (.int i) (.int j) = some c ∧ Q c := ⟨_, rfl, h⟩
theorem bx_in_str (h : Q (.bool (strIn x y))) : ∃ c, dIn (.str x) (.str y) = some c ∧ Q c := ⟨_, rfl, h⟩
theorem bx_nin_str (h : Q (.bool (!strIn x y))) : ∃ c, dNotIn (.str x) (.str y) = some c ∧ Q c := ⟨_, rfl, h⟩
theorem bx_is_bl {a b : Bool} (h : Q (.bool (decide (a = b)))) : ∃ c, dIs (.bool a) (.bool b) = some c ∧ Q c := ⟨_, rfl, h⟩
theorem bx_isNot_bl {a b : Bool} (h : Q (.bool (!decide (a = b)))) : ∃ c, dIsNot (.bool a) (.bool b) = some c ∧ Q c := ⟨_, rfl, h⟩
theorem bx_is_non (h : Q (.bool (isN d))) : ∃ c, dIs d .none = some c ∧ Q c := ⟨.bool (isN d), by unfold dIs; cases d <;> rfl, h⟩
theorem bx_isNot_non (h : Q (.bool (!isN d))) : ∃ c, dIsNot d .none = some c ∧ Q c := ⟨.bool (!isN d), by unfold dIsNot; cases d <;> rfl, h⟩
theorem bx_ix_lst (h1 : atI xs i = some d) (h : Q d) : ∃ c, dIx (.list xs) (.int i) = some c ∧ Q c := ⟨d, h1, h⟩
theorem bx_ix_tup (h1 : atI xs i = some d) (h : Q d) : ∃ c, dIx (.tuple xs) (.int i) = some c ∧ Q c := ⟨d, h1, h⟩
theorem bx_ix_str {c : Nat} (hl : x.length ≤ sizeLine) (h1 : atI x.cps.toList i = some c) (h : Q (.str ⟨#[c]⟩)) : ∃ c, dIx (.str x) (.int i) = some c ∧ Q c := ⟨.str ⟨#[c]⟩, by show (if x.length ≤ sizeLine then (atI x.cps.toList i).map (fun c => PyData.str ⟨#[c]⟩) else none) = _; rw [if_pos hl, h1]; rfl, h⟩
theorem bx_sl_str {lo hi : Option Int} (hl : x.length ≤ sizeLine) (h : Q (.str (cutS x lo hi))) : ∃ c, dSl (.str x) lo hi = some c ∧ Q c := ⟨_, if_pos hl, h⟩
theorem bx_sl_tup {lo hi : Option Int} (h : Q (.tuple (cutD xs lo hi))) : ∃ c, dSl (.tuple xs) lo hi = some c ∧ Q c := ⟨_, rfl, h⟩
theorem bx_sl_lst {lo hi : Option Int} (h : Q (.list (cutD xs lo hi))) : ∃ c, dSl (.list xs) lo hi = some c ∧ Q c := ⟨_, rfl, h⟩
theorem bx_neg (h : Q (.int (-i))) : ∃ c, dNeg (.int i) = some c ∧ Q c := ⟨_, rfl, h⟩
theorem bx_len_str (hl : x.length ≤ sizeLine) (h : Q (.int x.length)) : ∃ c, bLen [.str x] = some c ∧ Q c := ⟨_, if_pos hl, h⟩
theorem bx_len_lst (h : Q (.int xs.length)) : ∃ c, bLen [.list xs] = some c ∧ Q c := ⟨_, rfl, h⟩
theorem bx_len_tup (h : Q (.int xs.length)) : ∃ c, bLen [.tuple xs] = some c ∧ Q c := ⟨_, rfl, h⟩
theorem bx_int_int (h : Q (.int i)) : ∃ c, bInt [.int i] = some c ∧ Q c := ⟨_, rfl, h⟩
theorem bx_int_bl {b : Bool} (h : Q (.int (if b then 1 else 0))) : ∃ c, bInt [.bool b] = some c ∧ Q c := ⟨_, rfl, h⟩
theorem bx_II {f : Int → Int → Int} (h : Q (.int (f i j))) : ∃ c, bII f [.int i, .int j] = some c ∧ Q c := ⟨_, rfl, h⟩
theorem bx_tuple_lst (h : Q (.tuple xs)) : ∃ c, bTuple [.list xs] = some c ∧ Q c := ⟨_, rfl, h⟩
theorem bx_tuple_tup (h : Q (.tuple xs)) : ∃ c, bTuple [.tuple xs] = some c ∧ Q c := ⟨_, rfl, h⟩
theorem bx_list_lst (h : Q (.list xs)) : ∃ c, bList [.list xs] = some c ∧ Q c := ⟨_, rfl, h⟩
theorem bx_list_tup (h : Q (.list xs)) : ∃ c, bList [.tuple xs] = some c ∧ Q c := ⟨_, rfl, h⟩
theorem toIs_map : ∀ bs : List Int, toIs (bs.map PyData.int) = some bs
  | [] => rfl
  | b :: r => by rw [List.map_cons]; unfold toIs; rw [toIs_map r]; rfl
theorem toSs_map : ∀ bs : List Str, toSs (bs.map PyData.str) = some bs
  | [] => rfl
  | b :: r => by rw [List.map_cons]; unfold toSs; rw [toSs_map r]; rfl
theorem bx_sum {ns : List Int} (h : Q (.int ns.sum)) : ∃ c, bSum [.list (ns.map PyData.int)] = some c ∧ Q c := ⟨.int ns.sum, by show (toIs (ns.map PyData.int)).map _ = _; rw [toIs_map]; rfl, h⟩
theorem bx_split (h1 : (y.length == 0) = false) (h2 : x.length + 2 ≤ sizeLine) (h : Q (.list ((Txt.split x y).map PyData.str))) : ∃ c, sSplit x [.str y] = some c ∧ Q c := ⟨_, if_pos ⟨h1, h2⟩, h⟩
theorem bx_joinO {P : D → Prop} {ns : List Str} (h1 : joinN x ns ≤ 16777216) (h : P (.str (Txt.join x ns))) : ∃ c, sJoin x [.list (ns.map PyData.str)] = some c ∧ flatD c = true ∧ P c := ⟨.str (Txt.join x ns), by
  show ((toSs (ns.map PyData.str)).bind fun ys => if joinN x ys ≤ 16777216 then some (PyData.str (Txt.join x ys)) else none) = _
  rw [toSs_map]
  exact if_pos h1, rfl, h⟩
theorem bx_rng1 {R : List D → Prop} (h1 : inLine i = true) (h : R (rngD 0 i.toNat)) : ∃ ds, bRng1 (.int i) = some ds ∧ R ds := ⟨_, if_pos h1, h⟩
theorem bx_it_lst {R : List D → Prop} (h : R xs) : ∃ ds, dItems (.list xs) = some ds ∧ R ds := ⟨_, rfl, h⟩
theorem bx_it_tup {R : List D → Prop} (h : R xs) : ∃ ds, dItems (.tuple xs) = some ds ∧ R ds := ⟨_, rfl, h⟩
theorem bx_it_str {R : List D → Prop} (h : R (sgnD x)) : ∃ ds, dItems (.str x) = some ds ∧ R ds := ⟨_, rfl, h⟩
end
theorem inLine_of {i : Int} (h : -(2 ^ 62) ≤ i ∧ i < 2 ^ 62) : inLine i = true := decide_eq_true h
theorem line_of {n : Nat} (h : n ≤ 16777216) : n ≤ sizeLine := h
theorem kb_ss : kitB "str" "str" = some true := by decide +kernel
theorem kb_is : kitB "int" "str" = some false := by decide +kernel
theorem kb_bs : kitB "bool" "str" = some false := by decide +kernel
theorem kb_ns : kitB "NoneType" "str" = some false := by decide +kernel
theorem kb_ls : kitB "list" "str" = some false := by decide +kernel
theorem kb_ts : kitB "tuple" "str" = some false := by decide +kernel
theorem kb_ii : kitB "int" "int" = some true := by decide +kernel
theorem kb_bi : kitB "bool" "int" = some true := by decide +kernel
theorem kb_si : kitB "str" "int" = some false := by decide +kernel
theorem kb_ni : kitB "NoneType" "int" = some false := by decide +kernel
theorem kb_li : kitB "list" "int" = some false := by decide +kernel
theorem kb_ti : kitB "tuple" "int" = some false := by decide +kernel
theorem kb_bb : kitB "bool" "bool" = some true := by decide +kernel
theorem kb_ib : kitB "int" "bool" = some false := by decide +kernel
theorem kb_sb : kitB "str" "bool" = some false := by decide +kernel
theorem kb_nb : kitB "NoneType" "bool" = some false := by decide +kernel
theorem kb_lb : kitB "list" "bool" = some false := by decide +kernel
theorem kb_tb : kitB "tuple" "bool" = some false := by decide +kernel
theorem kb_tt : kitB "tuple" "tuple" = some true := by decide +kernel
theorem kb_it : kitB "int" "tuple" = some false := by decide +kernel
theorem kb_bt : kitB "bool" "tuple" = some false := by decide +kernel
theorem kb_st : kitB "str" "tuple" = some false := by decide +kernel
theorem kb_nt : kitB "NoneType" "tuple" = some false := by decide +kernel
theorem kb_lt : kitB "list" "tuple" = some false := by decide +kernel
@[reducible] def isBool : D → Bool
  | .bool _ => true
  | _ => false
@[reducible] def isInt : D → Bool
  | .int _ => true
  | .bool _ => true
  | _ => false
@[reducible] def isTup : D → Bool
  | .tuple _ => true
  | _ => false
def noDict : D → Bool
  | .dict _ => false
  | _ => true
section
variable {R : Bool → Prop} {d : D}
theorem bx_isi_str (hd : noDict d = true) (h : R (isStr d)) : ∃ b, kitB (tyD d) "str" = some b ∧ R b := by
  cases d <;> first | exact ⟨_, kb_ss, h⟩ | exact ⟨_, kb_is, h⟩ | exact ⟨_, kb_bs, h⟩ | exact ⟨_, kb_ns, h⟩ | exact ⟨_, kb_ls, h⟩ | exact ⟨_, kb_ts, h⟩ | cases hd
theorem bx_isi_bool (hd : noDict d = true) (h : R (isBool d)) : ∃ b, kitB (tyD d) "bool" = some b ∧ R b := by
  cases d <;> first | exact ⟨_, kb_bb, h⟩ | exact ⟨_, kb_ib, h⟩ | exact ⟨_, kb_sb, h⟩ | exact ⟨_, kb_nb, h⟩ | exact ⟨_, kb_lb, h⟩ | exact ⟨_, kb_tb, h⟩ | cases hd
theorem bx_isi_int (hd : noDict d = true) (h : R (isInt d)) : ∃ b, kitB (tyD d) "int" = some b ∧ R b := by
  cases d <;> first | exact ⟨_, kb_ii, h⟩ | exact ⟨_, kb_bi, h⟩ | exact ⟨_, kb_si, h⟩ | exact ⟨_, kb_ni, h⟩ | exact ⟨_, kb_li, h⟩ | exact ⟨_, kb_ti, h⟩ | cases hd
theorem bx_isi_tup (hd : noDict d = true) (h : R (isTup d)) : ∃ b, kitB (tyD d) "tuple" = some b ∧ R b := by
  cases d <;> first | exact ⟨_, kb_tt, h⟩ | exact ⟨_, kb_it, h⟩ | exact ⟨_, kb_bt, h⟩ | exact ⟨_, kb_st, h⟩ | exact ⟨_, kb_nt, h⟩ | exact ⟨_, kb_lt, h⟩ | cases hd
end
section
variable {A B : Prop} {Q : Sl → Env → Prop} {R : Fl → Env → Prop} {s : Sl} {ps : List Nat} {n : Nat} {e : Env} {p : Prop} {m : M Fl}
theorem seq_nx (h : A) : (Fl.nx = .nx → A) ∧ (Fl.nx ≠ .nx → B) := ⟨fun _ => h, fun z => absurd rfl z⟩
theorem seq_rt (h : B) : (Fl.rt s = .nx → A) ∧ (Fl.rt s ≠ .nx → B) := ⟨fun z => (nomatch z), fun _ => h⟩
theorem fin_rt (h : Q s (outs ps n e)) : (Fl.rt s = .nx → A) ∧ (∀ s', Fl.rt s = .rt s' → Q s' (outs ps n e)) ∧ Fl.rt s ≠ .bk ∧ Fl.rt s ≠ .ct := ⟨fun z => (nomatch z), fun s' z => by cases z; exact h, by simp, by simp⟩
theorem fin_nx (h : A) : (Fl.nx = .nx → A) ∧ (∀ s', Fl.nx = .rt s' → Q s' (outs ps n e)) ∧ Fl.nx ≠ .bk ∧ Fl.nx ≠ .ct := ⟨fun _ => h, fun s' z => (nomatch z), by simp, by simp⟩
theorem turn_nx {C : Sl → Prop} (h : A) : (Fl.nx = .nx ∨ Fl.nx = .ct → A) ∧ (Fl.nx = .bk → B) ∧ (∀ s', Fl.nx = .rt s' → C s') := ⟨fun _ => h, fun z => (nomatch z), fun s' z => (nomatch z)⟩
theorem turn_ct {C : Sl → Prop} (h : A) : (Fl.ct = .nx ∨ Fl.ct = .ct → A) ∧ (Fl.ct = .bk → B) ∧ (∀ s', Fl.ct = .rt s' → C s') := ⟨fun _ => h, fun z => (nomatch z), fun s' z => (nomatch z)⟩
theorem turn_bk {C : Sl → Prop} (h : B) : (Fl.bk = .nx ∨ Fl.bk = .ct → A) ∧ (Fl.bk = .bk → B) ∧ (∀ s', Fl.bk = .rt s' → C s') := ⟨fun z => by simp at z, fun _ => h, fun s' z => (nomatch z)⟩
theorem turn_rt {C : Sl → Prop} (h : C s) : (Fl.rt s = .nx ∨ Fl.rt s = .ct → A) ∧ (Fl.rt s = .bk → B) ∧ (∀ s', Fl.rt s = .rt s' → C s') := ⟨fun z => by simp at z, fun z => (nomatch z), fun s' z => by cases z; exact h⟩
theorem two_T (h : A) : (true = true → A) ∧ (true = false → B) := ⟨fun _ => h, fun z => (nomatch z)⟩
theorem two_F (h : B) : (false = true → A) ∧ (false = false → B) := ⟨fun z => (nomatch z), fun _ => h⟩
theorem two_dec [Decidable p] (h1 : p → A) (h2 : ¬ p → B) : (decide p = true → A) ∧ (decide p = false → B) := ⟨fun z => h1 (of_decide_eq_true z), fun z => h2 (of_decide_eq_false z)⟩
theorem two_dT {α : Type} {a : α} [Decidable (a = a)] (h : A) : (decide (a = a) = true → A) ∧ (decide (a = a) = false → B) := two_dec (fun _ => h) fun z => absurd rfl z
theorem two_not {b : Bool} (h : (b = true → B) ∧ (b = false → A)) : ((!b) = true → A) ∧ ((!b) = false → B) := ⟨fun z => h.2 (by simpa using z), fun z => h.1 (by simpa using z)⟩
theorem toB_bl {b : Bool} {R : Bool → Prop} (h : R b) : ∃ k, toB (.bool b) = some k ∧ R k := ⟨b, rfl, h⟩
end
theorem filter_take_succ {α : Type} (p : α → Bool) (ds : List α) (i : Nat) (d : α) (h : ds[i]? = some d) : (ds.take (i + 1)).filter p = (ds.take i).filter p ++ (if p d then [d] else []) := by
  rw [List.take_add_one, h, List.filter_append]
  cases hp : p d <;> simp [hp]
theorem run_yes {e : Env} {Q : Bool → Env → Prop} (h : Q true e) : Run mYes e Q := Run.i h
theorem strIn1 {c : Nat} {y : Str} : strIn ⟨#[c]⟩ y = decide (c ∈ tl y) := rfl
/-- parts of a text are no longer than it -/
theorem spl_len (S : List Nat) : ∀ (l : List Nat) (k : Nat) (acc : List Nat), ∀ p ∈ spl S k acc l, p.length ≤ acc.length + l.length
  | [], k, acc, p, h => by
    rw [spl_nil] at h
    simp at h
    subst h
    simp
  | c :: r, 0, acc, p, h => by
    by_cases hp : pre S (c :: r) = true
    · rw [spl_hit hp] at h
      rcases List.mem_cons.mp h with e | h
      · subst e; simp
      · have := spl_len S r _ _ p h
        simp at this ⊢
        omega
    · rw [spl_miss (by simpa using hp)] at h
      have := spl_len S r _ _ p h
      simp at this ⊢
      omega
  | c :: r, k + 1, acc, p, h => by
    have := spl_len S r k acc p h
    simp at this ⊢
    omega
theorem run_forL_nil {δ : Env} {g : D → M Unit} {mb : M Fl} {Q : Fl → Env → Prop} (h : Q .nx δ) : Run (forL g mb []) δ Q := Run.i h
theorem flat_int {i : Int} {P : Prop} (h : P) : flatD (.int i) = true ∧ P := ⟨rfl, h⟩
theorem flat_str {x : Str} {P : Prop} (h : P) : flatD (.str x) = true ∧ P := ⟨rfl, h⟩
theorem flat_bl {b : Bool} {P : Prop} (h : P) : flatD (.bool b) = true ∧ P := ⟨rfl, h⟩
theorem split_len {x y : Str} (hy : tl y ≠ []) (hk : y.cps.all (· < 256) = true) : ∀ p ∈ Txt.split x y, p.length ≤ x.length := fun p hp => by
  have e := split_spl x y hy (kind_ok hk)
  have hm : tl p ∈ spl (tl y) 0 [] (tl x) := by rw [← e]; exact List.mem_map_of_mem hp
  have := spl_len _ _ _ _ _ hm
  rw [len_tl, len_tl]
  simpa using this
theorem spl_mem (S : List Nat) : ∀ (l : List Nat) (k : Nat) (acc : List Nat), ∀ p ∈ spl S k acc l, ∀ c ∈ p, c ∈ acc ∨ c ∈ l
  | [], k, acc, p, h, c, hc => by
    rw [spl_nil] at h
    simp at h
    subst h
    exact .inl hc
  | a :: r, 0, acc, p, h, c, hc => by
    by_cases hp : pre S (a :: r) = true
    · rw [spl_hit hp] at h
      rcases List.mem_cons.mp h with e | h
      · subst e; exact .inl hc
      · rcases spl_mem S r _ _ p h c hc with z | z
        · cases z
        · exact .inr (List.mem_cons_of_mem _ z)
    · rw [spl_miss (by simpa using hp)] at h
      rcases spl_mem S r _ _ p h c hc with z | z
      · rcases List.mem_append.mp z with z | z
        · exact .inl z
        · exact .inr (by simp at z; simp [z])
      · exact .inr (List.mem_cons_of_mem _ z)
  | a :: r, k + 1, acc, p, h, c, hc => by
    rcases spl_mem S r k acc p h c hc with z | z
    · exact .inl z
    · exact .inr (List.mem_cons_of_mem _ z)
theorem split_mem {x y : Str} (hy : tl y ≠ []) (hk : y.cps.all (· < 256) = true) : ∀ p ∈ Txt.split x y, ∀ c ∈ tl p, c ∈ tl x := fun p hp c hc => by
  have e := split_spl x y hy (kind_ok hk)
  have hm : tl p ∈ spl (tl y) 0 [] (tl x) := by rw [← e]; exact List.mem_map_of_mem hp
  rcases spl_mem _ _ _ _ _ hm c hc with z | z
  · cases z
  · exact z
end Dn
namespace Dn
open PySem PySem.Spec PyProof.Rows L2 TL
theorem tl_cutS (x : Str) (lo hi : Option Int) : tl (cutS x lo hi) = ((tl x).drop (HT.sIx x.length 0 lo)).take (HT.sIx x.length x.length hi - HT.sIx x.length 0 lo) := by
  unfold cutS
  simp [tl]
/-- texts of up to n plain signs -/
def Ok (n : Nat) (x : Str) : Prop := x.length ≤ n ∧ ∀ c ∈ tl x, c < 128
theorem Ok.line {n : Nat} {x : Str} (h : Ok n x) (hn : n ≤ 16777216 := by decide) : x.length ≤ sizeLine := Nat.le_trans h.1 hn
theorem Ok.mono {n m : Nat} {x : Str} (h : Ok n x) (k : n ≤ m) : Ok m x := ⟨Nat.le_trans h.1 k, h.2⟩
theorem len_append (x y : Str) : (x ++ y).length = x.length + y.length := by rw [len_tl, len_tl, len_tl, tl_append, List.length_append]
theorem Ok.append {n m : Nat} {x y : Str} (h : Ok n x) (k : Ok m y) : Ok (n + m) (x ++ y) := ⟨by rw [len_append]; have := h.1; have := k.1; omega, fun c hc => by
  rw [tl_append] at hc
  exact (List.mem_append.mp hc).elim (h.2 c) (k.2 c)⟩
theorem cutS_mem {x : Str} {lo hi : Option Int} {c : Nat} (h : c ∈ tl (cutS x lo hi)) : c ∈ tl x := by
  rw [tl_cutS] at h
  exact List.mem_of_mem_drop (List.mem_of_mem_take h)
theorem cutS_len {x : Str} {lo hi : Option Int} : (cutS x lo hi).length ≤ x.length := by
  rw [len_tl, tl_cutS, List.length_take, List.length_drop, ← len_tl]
  omega
theorem Ok.cut {n : Nat} {x : Str} (h : Ok n x) (lo hi : Option Int) : Ok n (cutS x lo hi) := ⟨Nat.le_trans cutS_len h.1, fun c hc => h.2 c (cutS_mem hc)⟩
theorem Ok.lit (x : Str) (n : Nat) (h : (decide (x.length ≤ n) && (tl x).all (· < 128)) = true) : Ok n x := by
  rw [Bool.and_eq_true] at h
  exact ⟨of_decide_eq_true h.1, fun c hc => by simpa using List.all_eq_true.mp h.2 c hc⟩
theorem Ok.one {c : Nat} (h : c < 128) : Ok 1 ⟨#[c]⟩ := ⟨Nat.le_refl 1, fun d hd => by simp [tl] at hd; omega⟩
theorem tl_join (ss : List Str) : tl (Txt.join Str.empty ss) = ss.flatMap tl := by
  show tl (PySem.Builtin.Str.glued _ ss) = _
  rw [StrLaws.glued_eq_join]
  induction ss with
  | nil => rfl
  | cons a r ih =>
    cases r with
    | nil => simp [Str.join]
    | cons b r =>
      show tl (a ++ Str.empty ++ Str.join Str.empty (b :: r)) = _
      rw [tl_append, tl_append, ih]
      simp [tl, Str.empty]
theorem joinN_le {ss : List Str} {k : Nat} (h : ∀ s ∈ ss, s.length ≤ k) : joinN Str.empty ss ≤ ss.length * k := by
  unfold joinN
  show _ + ss.length * 0 ≤ _
  rw [Nat.mul_zero, Nat.add_zero]
  induction ss with
  | nil => simp
  | cons a r ih =>
    have h1 := h a List.mem_cons_self
    have h2 := ih fun s hs => h s (List.mem_cons_of_mem _ hs)
    rw [List.map_cons, List.sum_cons, List.length_cons, Nat.succ_mul]
    omega
theorem Ok.strOk {n : Nat} {x : Str} (h : Ok n x) : PyData.strOk x = true := by
  unfold PyData.strOk
  rw [← Array.all_toList]
  rw [List.all_eq_true]
  intro c hc
  have := h.2 c hc
  first
    | (simp; omega)
    | trace_state
theorem sep_ok {b : Nat} (hb : b < 256) : (⟨#[b]⟩ : Str).cps.all (· < 256) = true := by simp [hb]
theorem Ok.split {n b : Nat} (hb : b < 256) {x : Str} (h : Ok n x) : ∀ p ∈ Txt.split x ⟨#[b]⟩, Ok n p := fun p hp =>
  ⟨Nat.le_trans (split_len (by simp [tl]) (sep_ok hb) p hp) h.1, fun c hc => h.2 c (split_mem (by simp [tl]) (sep_ok hb) p hp c hc)⟩
def St (c : Nat) (st : List D) : Prop := ∃ a b k : Int, st = [.int a, .int b, .int k] ∧ 0 ≤ a ∧ 0 ≤ b ∧ b < 2147483647 ∧ 0 ≤ k ∧ k ≤ c
theorem St.mono {c c' : Nat} {st : List D} (h : St c st) (k : c ≤ c') : St c' st := by
  obtain ⟨a, b, k', e, h1, h2, h3, h4, h5⟩ := h
  exact ⟨a, b, k', e, h1, h2, h3, h4, by omega⟩
/-- an index within -/
theorem atI_lt {α : Type} {xs : List α} {i : Int} (h0 : 0 ≤ i) (h1 : i < xs.length) : ∃ x, atI xs i = some x ∧ x ∈ xs := by
  have hlt : i.toNat < xs.length := by omega
  refine ⟨xs[i.toNat], ?_, List.getElem_mem hlt⟩
  unfold atI ixN
  rw [if_pos h0, if_pos h1]
  simp [hlt]
theorem bx_ix_in {xs : List D} {i : Int} {Q : D → Prop} (h0 : 0 ≤ i) (h1 : i < xs.length) (h : ∀ d ∈ xs, Q d) : ∃ c, dIx (.list xs) (.int i) = some c ∧ Q c := by
  obtain ⟨d, e, m⟩ := atI_lt h0 h1
  exact bx_ix_lst e (h d m)
theorem bx_ix_sgn {x : Str} {n : Nat} {i : Int} {Q : D → Prop} (hx : Ok n x) (hn : n ≤ 16777216) (h0 : 0 ≤ i) (h1 : i < x.length) (h : ∀ c ∈ tl x, Q (.str ⟨#[c]⟩)) : ∃ c, dIx (.str x) (.int i) = some c ∧ Q c := by
  obtain ⟨d, e, m⟩ := atI_lt (xs := tl x) h0 (by rw [← len_tl]; exact h1)
  exact bx_ix_str (hx.line hn) e (h d m)
end Dn
namespace Dn
open PySem PySem.Spec PyProof.Rows L2 TL
def abc : Str := "abcdefghijklmnopqrstuvwxyz"
theorem abc_len : abc.length = 26 := by decide
theorem abc_mem : ∀ c ∈ tl abc, 97 ≤ c ∧ c ≤ 122 := by decide
theorem abc_ok : Ok 26 abc := Ok.lit _ _ (by decide)
def Lt (s : Str) : Prop := ∃ c, s = ⟨#[c]⟩ ∧ 97 ≤ c ∧ c ≤ 122
theorem Lt.ok {s : Str} (h : Lt s) : Ok 1 s := by
  obtain ⟨c, rfl, h1, h2⟩ := h
  exact Ok.one (by omega)
def Nm (x : Str) : Prop := 2 ≤ x.length ∧ x.length ≤ 8 ∧ (∀ c ∈ tl x, 97 ≤ c ∧ c ≤ 122) ∧ (tl x).head? = some 113
theorem Nm.ok {x : Str} (h : Nm x) : Ok 8 x := ⟨h.2.1, fun c hc => by have := h.2.2.1 c hc; omega⟩
theorem ix_abc {i : Int} {Q : D → Prop} (h0 : 0 ≤ i) (h1 : i < 26) (h : ∀ s, Lt s → Q (.str s)) : ∃ c, dIx (.str abc) (.int i) = some c ∧ Q c :=
  bx_ix_sgn abc_ok (by decide) h0 (by rw [abc_len]; exact h1) fun c hc => h _ ⟨c, rfl, abc_mem c hc⟩
theorem ixN_in {n : Nat} {i : Int} (h0 : 0 ≤ i) (h1 : i < n) : ixN n i = some i.toNat := by
  unfold ixN
  rw [if_pos h0, if_pos h1]
theorem rngD_at {a : Int} {n i : Nat} {d : D} (h : (rngD a n)[i]? = some d) : d = .int (a + i) ∧ i < n := by
  unfold rngD at h
  rw [List.getElem?_map] at h
  cases q : (List.range n)[i]? with
  | none => rw [q] at h; cases h
  | some k =>
    rw [q] at h
    have hk := List.getElem?_range (n := n) (i := i)
    by_cases hi : i < n
    · rw [List.getElem?_range hi] at q
      cases q
      cases h
      exact ⟨rfl, hi⟩
    · rw [List.getElem?_eq_none (by simp; omega)] at q
      cases q
theorem rngD_length {a : Int} {n : Nat} : (rngD a n).length = n := by simp [rngD]
theorem lt_flat : ∀ ss : List Str, (∀ s ∈ ss, Lt s) → (ss.flatMap tl).length = ss.length ∧ ∀ c ∈ ss.flatMap tl, 97 ≤ c ∧ c ≤ 122
  | [], _ => ⟨rfl, fun c hc => nomatch hc⟩
  | s :: r, h => by
    obtain ⟨c, rfl, h1, h2⟩ := h s List.mem_cons_self
    obtain ⟨i1, i2⟩ := lt_flat r fun t ht => h t (List.mem_cons_of_mem _ ht)
    rw [List.flatMap_cons]
    refine ⟨by rw [List.length_append, i1]; simp [tl]; omega, fun d hd => ?_⟩
    rcases List.mem_append.mp hd with z | z
    · simp [tl] at z
      omega
    · exact i2 d z
end Dn
namespace Ds
open PySem PySem.Spec PyProof.Rows L2 Dn
inductive All2 {α β : Type} (R : α → β → Prop) : List α → List β → Prop where
  | nil : All2 R [] []
  | cons {a : α} {b : β} {as : List α} {bs : List β} : R a b → All2 R as bs → All2 R (a :: as) (b :: bs)
namespace All2
variable {α β : Type} {R S : α → β → Prop}
theorem imp (k : ∀ a b, R a b → S a b) : ∀ {as : List α} {bs : List β}, All2 R as bs → All2 S as bs
  | _, _, .nil => .nil
  | _, _, .cons h t => .cons (k _ _ h) (imp k t)
theorem length : ∀ {as : List α} {bs : List β}, All2 R as bs → as.length = bs.length
  | _, _, .nil => rfl
  | _, _, .cons _ t => by rw [List.length_cons, List.length_cons, length t]
theorem get : ∀ {as : List α} {bs : List β} {i : Nat} {b : β}, All2 R as bs → bs[i]? = some b → ∃ a, as[i]? = some a ∧ R a b
  | _, _, i, d, .nil, e => by simp at e
  | _, _, 0, d, .cons h _, e => by simp at e; subst e; exact ⟨_, rfl, h⟩
  | _, _, i + 1, d, .cons _ t, e => by
    obtain ⟨v, h1, h2⟩ := get (i := i) t (by simpa using e)
    exact ⟨v, by simpa using h1, h2⟩
theorem append : ∀ {as as' : List α} {bs bs' : List β}, All2 R as bs → All2 R as' bs' → All2 R (as ++ as') (bs ++ bs')
  | _, _, _, _, .nil, s => s
  | _, _, _, _, .cons h t, s => .cons h (append t s)
theorem snoc {as : List α} {bs : List β} {a : α} {b : β} (h : All2 R as bs) (r : R a b) : All2 R (as ++ [a]) (bs ++ [b]) := h.append (.cons r .nil)
theorem set {a : α} {b : β} (r : R a b) : ∀ {as : List α} {bs : List β} (i : Nat), All2 R as bs → All2 R (as.set i a) (bs.set i b)
  | _, _, _, .nil => .nil
  | _, _, 0, .cons _ t => .cons r t
  | _, _, i + 1, .cons h t => .cons h (set r i t)
theorem erase : ∀ {as : List α} {bs : List β} (i : Nat), All2 R as bs → All2 R (as.eraseIdx i) (bs.eraseIdx i)
  | _, _, _, .nil => .nil
  | _, _, 0, .cons _ t => t
  | _, _, i + 1, .cons h t => .cons h (erase i t)
theorem take : ∀ {as : List α} {bs : List β} (n : Nat), All2 R as bs → All2 R (as.take n) (bs.take n)
  | _, _, 0, _ => .nil
  | _, _, _ + 1, .nil => .nil
  | _, _, n + 1, .cons h t => .cons h (take n t)
theorem drop : ∀ {as : List α} {bs : List β} (n : Nat), All2 R as bs → All2 R (as.drop n) (bs.drop n)
  | _, _, 0, h => h
  | _, _, _ + 1, .nil => .nil
  | _, _, n + 1, .cons _ t => drop n t
theorem imp_mem : ∀ {as : List α} {bs : List β}, All2 R as bs → (∀ a b, b ∈ bs → R a b → S a b) → All2 S as bs
  | _, _, .nil, _ => .nil
  | _, _, .cons h t, k => .cons (k _ _ List.mem_cons_self h) (imp_mem t fun a b m => k a b (List.mem_cons_of_mem _ m))
end All2
theorem nodup_at {α : Type} {a : α} : ∀ {l : List α} {i j : Nat}, l.Nodup → l[i]? = some a → l[j]? = some a → i = j
  | [], i, j, _, h, _ => by simp at h
  | b :: l, 0, 0, _, _, _ => rfl
  | b :: l, 0, j + 1, n, h, h' => by
    have e : b = a := by simpa using h
    subst e
    exact absurd (List.mem_of_getElem? (l := l) (i := j) (by simpa using h')) (List.nodup_cons.mp n).1
  | b :: l, i + 1, 0, n, h, h' => by
    have e : b = a := by simpa using h'
    subst e
    exact absurd (List.mem_of_getElem? (l := l) (i := i) (by simpa using h)) (List.nodup_cons.mp n).1
  | b :: l, i + 1, j + 1, n, h, h' => by
    rw [nodup_at (List.nodup_cons.mp n).2 (i := i) (j := j) (by simpa using h) (by simpa using h')]
/-- what a name, an item, a field holds: nothing said, data, a thing of the store -/
inductive Cl where
  | no
  | sh (d : D)
  | lo (l : Nat)
/-- things that change -/
inductive Ob where
  | gone
  | lst (xs : List Cl)
  | dk (kvs : List (Key × Cl))
  | dt (kvs : List (List Key × Cl))
  | ft (kvs : List (List Key × Cl))
  | fk (kvs : List (Key × Cl))
  | ins (c : Str) (fs : List (Str × Cl))
def Ob.live : Ob → Bool
  | .gone => false
  | .ft _ => false
  | .fk _ => false
  | _ => true
/-- locked -/
def Ob.fzd : Ob → Bool
  | .ft _ => true
  | .fk _ => true
  | _ => false
structure Sx where
  e : List Cl
  s : List Ob
inductive Res (α : Type) where
  | ok (a : α) (x : Sx)
  | exc (y : Exn) (x : Sx)
  | bad
abbrev M (α : Type) := Sx → Res α
def mPure {α : Type} (a : α) : M α := fun x => .ok a x
def mBind {α β : Type} (m : M α) (f : α → M β) : M β := fun x => match m x with
  | .ok a x' => f a x'
  | .exc y x' => .exc y x'
  | .bad => .bad
def mOpt {α : Type} (o : Option α) : M α := fun x => match o with
  | some a => .ok a x
  | none => .bad
/-- where the store's things lie, and what never changes -/
structure Gh where
  r : List Addr
  h : Hp
structure Le (g g' : Gh) : Prop where
  r : ∀ (l : Nat) (a : Addr), g.r[l]? = some a → g'.r[l]? = some a
  h : Ex g.h g'.h
theorem Le.refl (g : Gh) : Le g g := ⟨fun _ _ h => h, Ex.refl _⟩
theorem Le.trans {g g1 g2 : Gh} (a : Le g g1) (b : Le g1 g2) : Le g g2 := ⟨fun l x h => b.r l x (a.r l x h), a.h.trans b.h⟩
inductive CR (K : Frag) (g : Gh) : V → Cl → Prop where
  | sh {v : V} {d : D} : Rp K g.h v d → CR K g v (.sh d)
  | lo {l : Nat} {a : Addr} : g.r[l]? = some a → CR K g (.ref a) (.lo l)
def clsA (K : Frag) (c : Str) : Option Addr := match PySem.W.nsIn K mainGlobals c with
  | some (some (.ref a)) => some a
  | _ => none
inductive ObR (K : Frag) (g : Gh) : Ob → HO → Prop where
  | lst {xs : List Cl} {vs : List V} : All2 (CR K g) vs xs → ObR K g (.lst xs) (.lst vs)
  | dk {xs : List (Key × Cl)} {vs : List (Key × V)} : All2 (fun p q => p.1 = q.1 ∧ CR K g p.2 q.2) vs xs → ObR K g (.dk xs) (.dK vs)
  | dt {xs : List (List Key × Cl)} {vs : List (List Key × V)} : All2 (fun p q => p.1 = q.1 ∧ CR K g p.2 q.2) vs xs → ObR K g (.dt xs) (.dT vs)
  | ins {c : Str} {C dx : Addr} {xs : List (Str × Cl)} {vs : List (Str × V)} : clsA K c = some C → All2 (fun p q => p.1 = q.1 ∧ CR K g p.2 q.2) vs xs → ObR K g (.ins c xs) (.ins C dx vs)
/-- what is locked -/
inductive FzR (K : Frag) (g : Gh) : Ob → HO → Prop where
  | ft {xs : List (List Key × Cl)} {vs : List (List Key × V)} : All2 (fun p q => p.1 = q.1 ∧ CR K g p.2 q.2) vs xs → FzR K g (.ft xs) (.dT vs)
  | fk {xs : List (Key × Cl)} {vs : List (Key × V)} : All2 (fun p q => p.1 = q.1 ∧ CR K g p.2 q.2) vs xs → FzR K g (.fk xs) (.dK vs)
theorem fz_not {K : Frag} {g : Gh} {o : Ob} {u : HO} (h : ObR K g o u) (k : o.fzd = true) : False := by cases h <;> cases k
section
variable {K : Frag} {g g' : Gh}
theorem CR.le (e : Le g g') : ∀ {v : V} {c : Cl}, CR K g v c → CR K g' v c
  | _, _, .sh h => .sh (h.ex e.h)
  | _, _, .lo h => .lo (e.r _ _ h)
theorem CRs.le (e : Le g g') {vs : List V} {cs : List Cl} (h : All2 (CR K g) vs cs) : All2 (CR K g') vs cs := h.imp fun _ _ => CR.le e
theorem FzR.le (e : Le g g') : ∀ {o : Ob} {u : HO}, FzR K g o u → FzR K g' o u
  | _, _, .ft h => .ft (h.imp fun _ _ h => ⟨h.1, h.2.le e⟩)
  | _, _, .fk h => .fk (h.imp fun _ _ h => ⟨h.1, h.2.le e⟩)
theorem ObR.le (e : Le g g') : ∀ {o : Ob} {u : HO}, ObR K g o u → ObR K g' o u
  | _, _, .lst h => .lst (h.imp fun _ _ => CR.le e)
  | _, _, .dk h => .dk (h.imp fun _ _ h => ⟨h.1, h.2.le e⟩)
  | _, _, .dt h => .dt (h.imp fun _ _ h => ⟨h.1, h.2.le e⟩)
  | _, _, .ins c h => .ins c (h.imp fun _ _ h => ⟨h.1, h.2.le e⟩)
end
/-- slots, store and heap agree; G: what others hold -/
structure RE (K : Frag) (G : Hp) (g : Gh) (H : Hp) (σ : L2.St) (δ : Sx) : Prop where
  ex : Ex g.h H
  fg : ∀ a o, G a = some o → H a = some o ∧ g.h a = none ∧ a ∉ g.r
  len : σ.length = δ.e.length
  rl : g.r.length = δ.s.length
  sl : ∀ (i : Nat) (c : Cl), δ.e[i]? = some c → c ≠ .no → ∃ v : V, σ[i]? = some (some v) ∧ CR K g v c
  ob : ∀ (l : Nat) (o : Ob), δ.s[l]? = some o → o.live = true → ∃ (a : Addr) (u : HO), g.r[l]? = some a ∧ H a = some u ∧ ObR K g o u ∧ g.h a = none
  nd : g.r.Nodup
  al : ∀ a ∈ g.r, H a ≠ none
  nt : ∀ a xs, H a = some (.tup xs) → a ∉ g.r ∧ G a = none
  gx : ∀ a fs, G a ≠ some (.xd fs)
  fz : ∀ (l : Nat) (o : Ob), δ.s[l]? = some o → o.fzd = true → ∃ (a : Addr) (od : Obj) (u : HO), g.r[l]? = some a ∧ g.h a = some (.frz od u) ∧ FzR K g o u
/-- new stable things: fresh ones, or tuples that stand already -/
structure Gs (Hs H Hs' H' : Hp) : Prop where
  s : Ex Hs Hs'
  h : Ex H H'
  i : Ex Hs' H'
  f : ∀ a, H a ≠ none → Hs' a = Hs a ∨ ∃ ys, H a = some (.tup ys)
theorem Gs.of {Hs H Hs' H' : Hp} (g : Gr Hs H Hs' H') : Gs Hs H Hs' H' := ⟨g.s, g.h, g.i, fun a h => .inl (g.f a h)⟩
theorem Gs.trans {Hs H Hs' H' Hs2 H2 : Hp} (a : Gs Hs H Hs' H') (b : Gs Hs' H' Hs2 H2) : Gs Hs H Hs2 H2 := ⟨a.s.trans b.s, a.h.trans b.h, b.i, fun c hc => by
  cases q : H c with
  | none => exact absurd q hc
  | some o =>
    have q' := a.h c o q
    rcases a.f c hc with z | ⟨ys, z⟩
    · rcases b.f c (by rw [q']; simp) with w | ⟨ys, w⟩
      · exact .inl (w.trans z)
      · rw [q'] at w
        exact .inr ⟨ys, w⟩
    · rw [q] at z
      exact .inr ⟨ys, z⟩⟩
structure Grw (g : Gh) (H : Hp) (g' : Gh) (H' : Hp) : Prop where
  q : g'.r = g.r
  g : Gs g.h H g'.h H'
theorem Grw.le {g g' : Gh} {H H' : Hp} (a : Grw g H g' H') : Le g g' := ⟨fun l x h => by rw [a.q]; exact h, a.g.s⟩
theorem Grw.refl {g : Gh} {H : Hp} (e : Ex g.h H) : Grw g H g H := ⟨rfl, .of (.refl e)⟩
theorem Grw.new {g : Gh} {H : Hp} {p : Addr} {o : HO} (e : Ex g.h H) (h : H p = none) : Grw g H ⟨g.r, upd g.h p o⟩ (upd H p o) := ⟨rfl, .of (Gr.new e h)⟩
theorem Grw.of {g : Gh} {H Hs' H' : Hp} (a : Gr g.h H Hs' H') : Grw g H ⟨g.r, Hs'⟩ H' := ⟨rfl, .of a⟩
theorem Grw.ofS {g : Gh} {H Hs' H' : Hp} (a : Gs g.h H Hs' H') : Grw g H ⟨g.r, Hs'⟩ H' := ⟨rfl, a⟩
theorem Grw.trans {g g1 g2 : Gh} {H H1 H2 : Hp} (a : Grw g H g1 H1) (b : Grw g1 H1 g2 H2) : Grw g H g2 H2 := ⟨b.q.trans a.q, a.g.trans b.g⟩
section
variable {K : Frag} {G : Hp} {g g' : Gh} {H H' : Hp} {σ σ' : L2.St} {δ δ' : Sx} {e e' : List Cl} {s s' : List Ob}
theorem RE.grow (r : RE K G g H σ δ) (w : Grw g H g' H') : RE K G g' H' σ δ where
  ex := w.g.i
  fg := fun a o q => by
    obtain ⟨h1, h2, h3⟩ := r.fg a o q
    refine ⟨w.g.h a o h1, ?_, by rw [w.q]; exact h3⟩
    rcases w.g.f a (by rw [h1]; simp) with z | ⟨ys, z⟩
    · rw [z, h2]
    · rw [(r.nt a ys z).2] at q; cases q
  len := r.len
  rl := by rw [w.q]; exact r.rl
  sl := fun i c q hc => by
    obtain ⟨v, h1, h2⟩ := r.sl i c q hc
    exact ⟨v, h1, h2.le w.le⟩
  ob := fun l o q hl => by
    obtain ⟨a, u, h1, h2, h3, h4⟩ := r.ob l o q hl
    refine ⟨a, u, by rw [w.q]; exact h1, w.g.h a u h2, h3.le w.le, ?_⟩
    rcases w.g.f a (by rw [h2]; simp) with z | ⟨ys, z⟩
    · rw [z, h4]
    · exact absurd (List.mem_of_getElem? h1) (r.nt a ys z).1
  nd := by rw [w.q]; exact r.nd
  al := fun a ha => by
    rw [w.q] at ha
    have := r.al a ha
    cases q : H a with
    | none => exact absurd q this
    | some o => rw [w.g.h a o q]; simp
  nt := fun a xs q => by
    refine ⟨fun ha => ?_, ?_⟩
    · rw [w.q] at ha
      cases z : H a with
      | none => exact r.al a ha z
      | some o =>
        have := w.g.h a o z
        rw [q] at this
        cases this
        exact (r.nt a xs z).1 ha
    · cases z : G a with
      | none => rfl
      | some o =>
        have h1 := (r.fg a o z).1
        have := w.g.h a o h1
        rw [q] at this
        cases this
        rw [(r.nt a xs h1).2] at z
        cases z
  gx := r.gx
  fz := fun l o q hz => by
    obtain ⟨a, od, u, h1, h2, h3⟩ := r.fz l o q hz
    exact ⟨a, od, u, by rw [w.q]; exact h1, w.g.s _ _ h2, h3.le w.le⟩
/-- other slots, the same store -/
theorem RE.slots (r : RE K G g H σ δ) {σ' : L2.St} {e' : List Cl} (hl : σ'.length = e'.length) (h : ∀ (i : Nat) (c : Cl), e'[i]? = some c → c ≠ .no → ∃ v : V, σ'[i]? = some (some v) ∧ CR K g v c) : RE K G g H σ' ⟨e', δ.s⟩ where
  ex := r.ex
  fg := r.fg
  len := hl
  rl := r.rl
  sl := h
  ob := r.ob
  nd := r.nd
  al := r.al
  nt := r.nt
  gx := r.gx
  fz := r.fz
/-- a slot that says nothing may hold anything -/
theorem RE.sig (r : RE K G g H σ δ) (hl : σ'.length = σ.length) (h : ∀ (i : Nat) (c : Cl), δ.e[i]? = some c → c ≠ .no → σ'[i]? = σ[i]?) : RE K G g H σ' δ :=
  r.slots (σ' := σ') (e' := δ.e) (hl.trans r.len) fun i c q hc => by rw [h i c q hc]; exact r.sl i c q hc
/-- less is said -/
theorem RE.less (r : RE K G g H σ δ) {e' : List Cl} (hl : e'.length = δ.e.length) (h : ∀ (i : Nat) (c : Cl), e'[i]? = some c → c = Cl.no ∨ δ.e[i]? = some c) : RE K G g H σ ⟨e', δ.s⟩ :=
  r.slots (r.len.trans hl.symm) fun i c q hc => r.sl i c ((h i c q).resolve_left hc) hc
theorem RE.set {v : V} {c : Cl} {i : Nat} (r : RE K G g H σ δ) (h : CR K g v c) : RE K G g H (σ.set i (some v)) ⟨δ.e.set i c, δ.s⟩ :=
  r.slots (by rw [List.length_set, List.length_set]; exact r.len) fun j d q hd => by
    rcases setGet q with ⟨rfl, z⟩ | ⟨hj, z⟩
    · subst z
      have hl := set_lt q
      exact ⟨v, by rw [List.getElem?_set_self (by rw [r.len]; exact hl)], h⟩
    · rw [List.getElem?_set_ne (Ne.symm hj)]
      exact r.sl j d z hd
/-- only the store and the heap -/
theorem RE.bare (r : RE K G g H σ δ) : RE K G g H [] ⟨[], δ.s⟩ := r.slots rfl fun i c q => by simp at q
theorem RE.lift (r : RE K G g H σ δ) (e : Le g g') (r' : RE K G g' H' σ' δ') : RE K G g' H' σ ⟨δ.e, δ'.s⟩ :=
  r'.slots r.len fun i c q hc => by
    obtain ⟨v, h1, h2⟩ := r.sl i c q hc
    exact ⟨v, h1, h2.le e⟩
theorem RE.nin (r : RE K G g H σ δ) {p : Addr} (h : H p = none) : p ∉ g.r := fun z => r.al p z h
/-- new things that no name reaches -/
theorem RE.newH (r : RE K G g H σ δ) (e : Ex H H') : RE K G g H' σ δ := r.grow ⟨rfl, Ex.refl _, e, r.ex.trans e, fun _ _ => .inl rfl⟩
/-- a thing of the store changes in place -/
theorem RE.write {l : Nat} {a : Addr} {o o' : Ob} {u : HO} (r : RE K G g H σ δ) (hl : δ.s[l]? = some o) (hv : o.live = true) (ha : g.r[l]? = some a) (hu : ObR K g o' u) : RE K G g (upd H a u) σ ⟨δ.e, δ.s.set l o'⟩ := by
  obtain ⟨b, w, h1, h2, h3, h4⟩ := r.ob l o hl hv
  rw [ha] at h1
  obtain rfl : a = b := Option.some.inj h1
  have hlt : l < δ.s.length := (List.getElem?_eq_some_iff.mp hl).1
  have inj : ∀ {l' : Nat}, g.r[l']? = some a → l' = l := fun {l'} q => by
    exact nodup_at r.nd q ha
  exact {
    ex := fun b v q => by
      have hb : b ≠ a := fun z => by rw [z, h4] at q; cases q
      rw [upd_ne hb]; exact r.ex b v q
    fg := fun b v q => by
      obtain ⟨f1, f2, f3⟩ := r.fg b v q
      have hb : b ≠ a := fun z => f3 (z ▸ List.mem_of_getElem? ha)
      exact ⟨by rw [upd_ne hb]; exact f1, f2, f3⟩
    len := r.len
    rl := by rw [r.rl]; simp
    sl := r.sl
    ob := fun l' o1 q hv1 => by
      rcases setGet q with ⟨rfl, z⟩ | ⟨hj, z⟩
      · subst z; exact ⟨a, u, ha, upd_same, hu, h4⟩
      · obtain ⟨b, v, f1, f2, f3, f4⟩ := r.ob l' o1 z hv1
        have hb : b ≠ a := fun z => hj (inj (z ▸ f1))
        exact ⟨b, v, f1, by rw [upd_ne hb]; exact f2, f3, f4⟩
    nd := r.nd
    al := fun b hb => by
      by_cases hba : b = a
      · subst hba; rw [upd_same]; simp
      · rw [upd_ne hba]; exact r.al b hb
    nt := fun b xs q => by
      by_cases hba : b = a
      · subst hba
        rw [upd_same] at q
        cases q
        cases hu
      · rw [upd_ne hba] at q; exact r.nt b xs q
    gx := r.gx
    fz := fun l' o1 q hz => by
      rcases setGet q with ⟨rfl, z⟩ | ⟨hj, z⟩
      · subst z; exact (fz_not hu hz).elim
      · exact r.fz l' o1 z hz }
/-- a fresh list that nothing reaches yet -/
structure FrO (K : Frag) (G : Hp) (g : Gh) (H : Hp) (a : Addr) (xs : List Cl) : Prop where
  at_ : ∃ vs, H a = some (.lst vs) ∧ All2 (CR K g) vs xs
  hs : g.h a = none
  gg : G a = none
  nr : a ∉ g.r
/-- any fresh thing -/
structure Fro (K : Frag) (G : Hp) (g : Gh) (H : Hp) (a : Addr) (o : Ob) : Prop where
  at_ : ∃ u, H a = some u ∧ ObR K g o u
  hs : g.h a = none
  gg : G a = none
  nr : a ∉ g.r
theorem FrO.fro {a : Addr} {xs : List Cl} (f : FrO K G g H a xs) : Fro K G g H a (.lst xs) := by
  obtain ⟨⟨vs, h1, h2⟩, b, c, d⟩ := f
  exact ⟨⟨_, h1, .lst h2⟩, b, c, d⟩
/-- .. becomes one of the store's -/
theorem RE.alloc {a : Addr} {o : Ob} (r : RE K G g H σ δ) (f : Fro K G g H a o) : Le g ⟨g.r ++ [a], g.h⟩ ∧ RE K G ⟨g.r ++ [a], g.h⟩ H σ ⟨δ.e, δ.s ++ [o]⟩ := by
  have le : Le g ⟨g.r ++ [a], g.h⟩ := ⟨fun l b h => by
    have := (List.getElem?_eq_some_iff.mp h).1
    show (g.r ++ [a])[l]? = some b
    rw [List.getElem?_append_left this]; exact h, Ex.refl _⟩
  obtain ⟨⟨u, h1, h2⟩, b, c, d⟩ := f
  refine ⟨le, ?_⟩
  exact {
    ex := r.ex
    fg := fun b v q => by
      obtain ⟨f1, f2, f3⟩ := r.fg b v q
      refine ⟨f1, f2, fun z => ?_⟩
      rcases List.mem_append.mp z with z | z
      · exact f3 z
      · simp at z; subst z; rw [c] at q; cases q
    len := r.len
    rl := by simp [r.rl]
    sl := fun i k q hk => by
      obtain ⟨v, f1, f2⟩ := r.sl i k q hk
      exact ⟨v, f1, f2.le le⟩
    ob := fun l o1 q hv1 => by
      by_cases hl : l < δ.s.length
      · rw [List.getElem?_append_left hl] at q
        obtain ⟨b, v, f1, f2, f3, f4⟩ := r.ob l o1 q hv1
        exact ⟨b, v, le.r _ _ f1, f2, f3.le le, f4⟩
      · have hl' : l = δ.s.length := by
          have := (List.getElem?_eq_some_iff.mp q).1
          simp at this
          omega
        subst hl'
        rw [List.getElem?_append_right (Nat.le_refl _), Nat.sub_self] at q
        have q : o = o1 := Option.some.inj q
        subst q
        refine ⟨a, u, ?_, h1, h2.le le, b⟩
        show (g.r ++ [a])[δ.s.length]? = some a
        rw [← r.rl, List.getElem?_append_right (Nat.le_refl _), Nat.sub_self]
        rfl
    nd := List.nodup_append.mpr ⟨r.nd, by simp, fun x hx y hy => by
      simp at hy; subst hy
      exact fun z => d (z ▸ hx)⟩
    al := fun b hb => by
      rcases List.mem_append.mp hb with z | z
      · exact r.al b z
      · simp at z; subst z; rw [h1]; simp
    nt := fun b xs q => by
      have hba : b ≠ a := fun z => by
        subst z
        rw [h1] at q
        cases q
        cases h2
      obtain ⟨k1, k2⟩ := r.nt b xs q
      refine ⟨fun z => ?_, k2⟩
      rcases List.mem_append.mp z with z | z
      · exact k1 z
      · simp at z; exact hba z
    gx := r.gx
    fz := fun l o1 q hz => by
      by_cases hl : l < δ.s.length
      · rw [List.getElem?_append_left hl] at q
        obtain ⟨b, o', vs, f1, f2, f3⟩ := r.fz l o1 q hz
        exact ⟨b, o', vs, le.r _ _ f1, f2, f3.le le⟩
      · have hl' : l = δ.s.length := by
          have := (List.getElem?_eq_some_iff.mp q).1
          simp at this
          omega
        subst hl'
        rw [List.getElem?_append_right (Nat.le_refl _), Nat.sub_self] at q
        have q : o = o1 := Option.some.inj q
        subst q
        exact (fz_not h2 hz).elim }
/-- all of them data -/
def shL : List Cl → Option (List D)
  | [] => some []
  | .sh d :: cs => (shL cs).map (d :: ·)
  | _ :: _ => none
theorem shL_rps : ∀ {vs : List V} {cs : List Cl} {ds : List D}, All2 (CR K g) vs cs → shL cs = some ds → Rps K g.h vs ds
  | _, _, ds, .nil, h => by obtain rfl := Option.some.inj h; exact .nil
  | _, _, ds, .cons (b := .sh d) (bs := cs) (.sh r) t, h => by
    unfold shL at h
    cases z : shL cs with
    | none => rw [z] at h; simp at h
    | some es =>
      rw [z] at h
      have e : d :: es = ds := by simpa using h
      subst e
      exact .cons r (shL_rps t z)
  | _, _, ds, .cons (.lo r) t, h => by simp [shL] at h
theorem rps_cr : ∀ {vs : List V} {ds : List D}, Rps K g.h vs ds → All2 (CR K g) vs (ds.map Cl.sh)
  | _, _, .nil => .nil
  | _, _, .cons h t => .cons (.sh h) (rps_cr t)
theorem ex_upd' {p : Addr} {u : HO} {Hs : Hp} (e : Ex Hs H) (h : H p = some u) : Ex (upd Hs p u) H := fun c w z => by
  by_cases hc : c = p
  · subst hc; rw [upd_same] at z; cases z; exact h
  · rw [upd_ne hc] at z; exact e c w z
/-- a fresh list becomes data -/
theorem RE.freeze {a : Addr} {xs : List Cl} {ds : List D} (r : RE K G g H σ δ) (f : FrO K G g H a xs) (hd : shL xs = some ds) : ∃ g', Le g g' ∧ g'.r = g.r ∧ RE K G g' H σ δ ∧ Rp K g'.h (.ref a) (.list ds) := by
  obtain ⟨vs, h1, h2⟩ := f.at_
  have e : Ex g.h (upd g.h a (.lst vs)) := ex_new f.hs
  have le : Le g ⟨g.r, upd g.h a (.lst vs)⟩ := ⟨fun _ _ h => h, e⟩
  refine ⟨⟨g.r, upd g.h a (.lst vs)⟩, le, rfl, ?_, .lst (SqL.of upd_same) ((shL_rps h2 hd).ex e)⟩
  exact {
    ex := ex_upd' r.ex h1
    fg := fun b o q => by
      obtain ⟨f1, f2, f3⟩ := r.fg b o q
      have hb : b ≠ a := fun z => by rw [z, f.gg] at q; cases q
      exact ⟨f1, by show upd g.h a _ b = none; rw [upd_ne hb]; exact f2, f3⟩
    len := r.len
    rl := r.rl
    sl := fun i c q hc => by
      obtain ⟨v, q1, q2⟩ := r.sl i c q hc
      exact ⟨v, q1, q2.le le⟩
    ob := fun l o q hl => by
      obtain ⟨b, u, q1, q2, q3, q4⟩ := r.ob l o q hl
      have hb : b ≠ a := fun z => f.nr (z ▸ List.mem_of_getElem? q1)
      exact ⟨b, u, q1, q2, q3.le le, by show upd g.h a _ b = none; rw [upd_ne hb]; exact q4⟩
    nd := r.nd
    al := r.al
    nt := r.nt
    gx := r.gx
    fz := fun l o q hz => by
      obtain ⟨b, o', vs', f1, f2, f3⟩ := r.fz l o q hz
      exact ⟨b, o', vs', f1, e _ _ f2, f3.le le⟩ }
/-- a list of the store becomes data: it is the store's no more -/
theorem RE.seal {l : Nat} {a : Addr} {xs : List Cl} {ds : List D} (r : RE K G g H σ δ) (hl : δ.s[l]? = some (.lst xs)) (ha : g.r[l]? = some a) (hd : shL xs = some ds) : ∃ g', Le g g' ∧ g'.r = g.r ∧ RE K G g' H σ ⟨δ.e, δ.s.set l .gone⟩ ∧ Rp K g'.h (.ref a) (.list ds) := by
  obtain ⟨b, w, h1, h2, h3, h4⟩ := r.ob l _ hl rfl
  rw [ha] at h1
  obtain rfl : a = b := Option.some.inj h1
  cases h3 with
  | lst h3 =>
    rename_i vs
    have e : Ex g.h (upd g.h a (.lst vs)) := ex_new h4
    have le : Le g ⟨g.r, upd g.h a (.lst vs)⟩ := ⟨fun _ _ h => h, e⟩
    refine ⟨⟨g.r, upd g.h a (.lst vs)⟩, le, rfl, ?_, .lst (SqL.of upd_same) ((shL_rps h3 hd).ex e)⟩
    have inj : ∀ {l' : Nat}, g.r[l']? = some a → l' = l := fun {l'} q => by
      exact nodup_at r.nd q ha
    exact {
      ex := ex_upd' r.ex h2
      fg := fun b o q => by
        obtain ⟨f1, f2, f3⟩ := r.fg b o q
        have hb : b ≠ a := fun z => f3 (z ▸ List.mem_of_getElem? ha)
        exact ⟨f1, by show upd g.h a _ b = none; rw [upd_ne hb]; exact f2, f3⟩
      len := r.len
      rl := by rw [r.rl]; simp
      sl := fun i c q hc => by
        obtain ⟨v, q1, q2⟩ := r.sl i c q hc
        exact ⟨v, q1, q2.le le⟩
      ob := fun l' o q hlv => by
        rcases setGet q with ⟨rfl, z⟩ | ⟨hj, z⟩
        · subst z; cases hlv
        · obtain ⟨b, u, q1, q2, q3, q4⟩ := r.ob l' o z hlv
          have hb : b ≠ a := fun z => hj (inj (z ▸ q1))
          exact ⟨b, u, q1, q2, q3.le le, by show upd g.h a _ b = none; rw [upd_ne hb]; exact q4⟩
      nd := r.nd
      al := r.al
      nt := r.nt
      gx := r.gx
      fz := fun l' o q hz => by
        rcases setGet q with ⟨rfl, z⟩ | ⟨hj, z⟩
        · subst z; cases hz
        · obtain ⟨b, o', vs', f1, f2, f3⟩ := r.fz l' o z hz
          exact ⟨b, o', vs', f1, e _ _ f2, f3.le le⟩ }
end
end Ds
namespace Ds
open PySem PySem.Spec PyProof.Rows L2 Dn
def Post {α : Type} (K : Frag) (E : XQ) (G : Hp) (g : Gh) (σ : L2.St) (r : Res α) (Q : α → Gh → Hp → Sx → Prop) : Prop :=
  match r with
  | .ok a δ' => ∀ g' H', Le g g' → RE K G g' H' σ δ' → Q a g' H' δ'
  | .exc x δ' => ∀ g' H', Le g g' → RE K G g' H' σ δ' → E x σ H'
  | .bad => False
theorem Post.ex {α : Type} {K : Frag} {E : XQ} {G : Hp} {g g1 : Gh} {σ : L2.St} {r : Res α} {Q : α → Gh → Hp → Sx → Prop} (h : Post K E G g σ r Q) (e : Le g g1) : Post K E G g1 σ r Q := by
  cases r with
  | ok a δ' => exact fun g' H' e' r => h g' H' (e.trans e') r
  | exc x δ' => exact fun g' H' e' r => h g' H' (e.trans e') r
  | bad => exact h
theorem Post.of {α : Type} {K : Frag} {E : XQ} {G : Hp} {g : Gh} {H : Hp} {σ : L2.St} {a : α} {δ : Sx} {Q : α → Gh → Hp → Sx → Prop} (h : Post K E G g σ (.ok a δ) Q) (r : RE K G g H σ δ) : Q a g H δ := h g H (Le.refl _) r
theorem Post.grow {α : Type} {K : Frag} {E : XQ} {G : Hp} {g g' : Gh} {H H' : Hp} {σ : L2.St} {a : α} {δ : Sx} {Q : α → Gh → Hp → Sx → Prop} (h : Post K E G g σ (.ok a δ) Q) (r : RE K G g H σ δ) (w : Grw g H g' H') : Q a g' H' δ :=
  h g' H' w.le (r.grow w)
theorem Post.mono {α : Type} {K : Frag} {E : XQ} {G : Hp} {g : Gh} {σ : L2.St} {r : Res α} {Q Q' : α → Gh → Hp → Sx → Prop} (h : Post K E G g σ r Q) (k : ∀ a g' H' δ', Q a g' H' δ' → Q' a g' H' δ') : Post K E G g σ r Q' := by
  cases r with
  | ok a δ' => exact fun g' H' e r => k _ _ _ _ (h g' H' e r)
  | exc x δ' => exact h
  | bad => exact h
def Cf {α : Type} (K : Frag) (E : XQ) (m : M α) (σ : L2.St) (H : Hp) (Q : Hp → α → Gh → Hp → Sx → Prop) : Prop :=
  ∃ (G : Hp) (g : Gh) (δ : Sx), RE K G g H σ δ ∧ Post K E G g σ (m δ) (Q G)
/-- data -/
def tOf (K : Frag) (E : XQ) (m : M D) : TE := fun σ H Q => Cf K E m σ H fun _ d g' H' _ => ∀ v, Rp K g'.h v d → Q v H'
def tOfT (K : Frag) (E : XQ) (m : M Bool) : TT := fun σ H Q => Cf K E m σ H fun _ b _ H' _ => Q b H'
/-- a thing of the store -/
def tOfL (K : Frag) (E : XQ) (m : M Nat) : TE := fun σ H Q => Cf K E m σ H fun _ l g' H' _ => ∀ a, g'.r[l]? = some a → Q (.ref a) H'
/-- either -/
def tOfC (K : Frag) (E : XQ) (m : M Cl) : TE := fun σ H Q => Cf K E m σ H fun _ c g' H' _ => ∀ v, CR K g' v c → Q v H'
/-- a fresh list -/
def tOfO (K : Frag) (E : XQ) (m : M (List Cl)) : TE := fun σ H Q => Cf K E m σ H fun G xs g' H' _ => ∀ a, FrO K G g' H' a xs → Q (.ref a) H'
def tOfA (K : Frag) (E : XQ) (m : M (List Cl)) : TA := fun σ H Q => Cf K E m σ H fun _ cs g' H' _ => ∀ vs, All2 (CR K g') vs cs → Q vs H'
section
variable {K : Frag} {E : XQ} {G : Hp} {g : Gh} {H : Hp} {σ : L2.St} {δ : Sx}
theorem Cf.step {α β : Type} {ma : M α} {f : α → M β} {QQ : β → Gh → Hp → Sx → Prop} {R : Hp → α → Gh → Hp → Sx → Prop} (re : RE K G g H σ δ) (po : Post K E G g σ (mBind ma f δ) QQ)
    (k : ∀ a g1 H1 δ1, Le g g1 → RE K G g1 H1 σ δ1 → Post K E G g1 σ (f a δ1) QQ → R G a g1 H1 δ1) : Cf K E ma σ H R := by
  refine ⟨G, g, δ, re, ?_⟩
  unfold mBind at po
  cases h : ma δ with
  | ok a δ1 =>
    rw [h] at po
    exact fun g' H' e r => k a g' H' δ1 e r (Post.ex po e)
  | exc x δ1 =>
    rw [h] at po
    exact po
  | bad =>
    rw [h] at po
    exact po
theorem tOf.step {β : Type} {ma : M D} {f : D → M β} {QQ : β → Gh → Hp → Sx → Prop} {R : V → Hp → Prop} (re : RE K G g H σ δ) (po : Post K E G g σ (mBind ma f δ) QQ)
    (k : ∀ v d g1 H1 δ1, Le g g1 → RE K G g1 H1 σ δ1 → Rp K g1.h v d → Post K E G g1 σ (f d δ1) QQ → R v H1) : tOf K E ma σ H R :=
  Cf.step re po fun d g1 H1 δ1 e r p v rv => k v d g1 H1 δ1 e r rv p
theorem tOfT.step {β : Type} {ma : M Bool} {f : Bool → M β} {QQ : β → Gh → Hp → Sx → Prop} {R : Bool → Hp → Prop} (re : RE K G g H σ δ) (po : Post K E G g σ (mBind ma f δ) QQ)
    (k : ∀ b g1 H1 δ1, Le g g1 → RE K G g1 H1 σ δ1 → Post K E G g1 σ (f b δ1) QQ → R b H1) : tOfT K E ma σ H R :=
  Cf.step re po k
theorem tOfL.step {β : Type} {ma : M Nat} {f : Nat → M β} {QQ : β → Gh → Hp → Sx → Prop} {R : V → Hp → Prop} (re : RE K G g H σ δ) (po : Post K E G g σ (mBind ma f δ) QQ)
    (k : ∀ a l g1 H1 δ1, Le g g1 → RE K G g1 H1 σ δ1 → g1.r[l]? = some a → Post K E G g1 σ (f l δ1) QQ → R (.ref a) H1) : tOfL K E ma σ H R :=
  Cf.step re po fun l g1 H1 δ1 e r p a ha => k a l g1 H1 δ1 e r ha p
theorem tOfC.step {β : Type} {ma : M Cl} {f : Cl → M β} {QQ : β → Gh → Hp → Sx → Prop} {R : V → Hp → Prop} (re : RE K G g H σ δ) (po : Post K E G g σ (mBind ma f δ) QQ)
    (k : ∀ v c g1 H1 δ1, Le g g1 → RE K G g1 H1 σ δ1 → CR K g1 v c → Post K E G g1 σ (f c δ1) QQ → R v H1) : tOfC K E ma σ H R :=
  Cf.step re po fun c g1 H1 δ1 e r p v rv => k v c g1 H1 δ1 e r rv p
theorem tOfA.step {β : Type} {ma : M (List Cl)} {f : List Cl → M β} {QQ : β → Gh → Hp → Sx → Prop} {R : List V → Hp → Prop} (re : RE K G g H σ δ) (po : Post K E G g σ (mBind ma f δ) QQ)
    (k : ∀ vs cs g1 H1 δ1, Le g g1 → RE K G g1 H1 σ δ1 → All2 (CR K g1) vs cs → Post K E G g1 σ (f cs δ1) QQ → R vs H1) : tOfA K E ma σ H R :=
  Cf.step re po fun cs g1 H1 δ1 e r p vs rv => k vs cs g1 H1 δ1 e r rv p
theorem tOfO.step {β : Type} {ma : M (List Cl)} {f : List Cl → M β} {QQ : β → Gh → Hp → Sx → Prop} {R : V → Hp → Prop} (re : RE K G g H σ δ) (po : Post K E G g σ (mBind ma f δ) QQ)
    (k : ∀ a xs g1 H1 δ1, Le g g1 → RE K G g1 H1 σ δ1 → FrO K G g1 H1 a xs → Post K E G g1 σ (f xs δ1) QQ → R (.ref a) H1) : tOfO K E ma σ H R :=
  Cf.step re po fun xs g1 H1 δ1 e r p a fa => k a xs g1 H1 δ1 e r fa p
theorem Cf.last {α : Type} {ma : M α} {R : Hp → α → Gh → Hp → Sx → Prop} (re : RE K G g H σ δ) (po : Post K E G g σ (ma δ) (R G)) : Cf K E ma σ H R := ⟨G, g, δ, re, po⟩
theorem Post.opt {α : Type} {o : Option α} {QQ : α → Gh → Hp → Sx → Prop} (po : Post K E G g σ (mOpt o δ) QQ) : ∃ a, o = some a ∧ Post K E G g σ (.ok a δ) QQ := by
  unfold mOpt at po
  cases o with
  | none => exact po.elim
  | some a => exact ⟨a, rfl, po⟩
theorem Post.optB {α β : Type} {o : Option α} {f : α → M β} {QQ : β → Gh → Hp → Sx → Prop} (po : Post K E G g σ (mBind (mOpt o) f δ) QQ) : ∃ a, o = some a ∧ Post K E G g σ (f a δ) QQ := by
  cases o with
  | none => exact po.elim
  | some a => exact ⟨a, rfl, po⟩
end
section
variable {X : Cx} {E : XQ} {a b e : Expr} {pos : Pos} {ma mb m : M D}
def mCl (i : Nat) : M Cl := fun δ => match δ.e[i]? with
  | some (.sh d) => .ok (.sh d) δ
  | some (.lo l) => .ok (.lo l) δ
  | _ => .bad
def toD : Cl → Option D
  | .sh d => some d
  | _ => none
def toL : Cl → Option Nat
  | .lo l => some l
  | _ => none
def mVar (i : Nat) : M D := fun δ => match δ.e[i]? with
  | some (.sh d) => .ok d δ
  | _ => .bad
def mLV (i : Nat) : M Nat := fun δ => match δ.e[i]? with
  | some (.lo l) => .ok l δ
  | _ => .bad
theorem je_var {i : Nat} {x : Str} (hN : X.N[i]? = some x) (hv : Vis X.env.scope x) (hd : (x == ("__debug__" : Str)) = false := by decide) (hcd : (x == ("__classdict__" : Str)) = false := by decide) : PE X (.Name x pos) (tOf X.K E (mVar i)) :=
  pe_imp (pe_var hN hv hd hcd) fun σ H Q ⟨G, g, δ, re, po⟩ => by
    unfold mVar at po
    split at po
    · rename_i d hd
      obtain ⟨v, h1, h2⟩ := re.sl i _ hd (by simp)
      cases h2 with
      | sh h2 => exact ⟨v, h1, po g H (Le.refl _) re v h2⟩
    · exact po.elim
theorem jl_var {i : Nat} {x : Str} (hN : X.N[i]? = some x) (hv : Vis X.env.scope x) (hd : (x == ("__debug__" : Str)) = false := by decide) (hcd : (x == ("__classdict__" : Str)) = false := by decide) : PE X (.Name x pos) (tOfL X.K E (mLV i)) :=
  pe_imp (pe_var hN hv hd hcd) fun σ H Q ⟨G, g, δ, re, po⟩ => by
    unfold mLV at po
    split at po
    · rename_i d hd
      obtain ⟨v, h1, h2⟩ := re.sl i _ hd (by simp)
      cases h2 with
      | lo h2 => exact ⟨_, h1, po g H (Le.refl _) re _ h2⟩
    · exact po.elim
/-- data or a thing, as a cell -/
def mSh (m : M D) : M Cl := mBind m fun d => mPure (.sh d)
def mLo (m : M Nat) : M Cl := mBind m fun l => mPure (.lo l)
theorem jc_sh (h : PE X e (tOf X.K E m)) : PE X e (tOfC X.K E (mSh m)) :=
  pe_imp h fun σ H Q ⟨G, g, δ, re, po⟩ => tOf.step re po fun v d g1 H1 δ1 e1 re1 r1 po1 => Post.of po1 re1 v (.sh r1)
theorem jc_lo {m : M Nat} (h : PE X e (tOfL X.K E m)) : PE X e (tOfC X.K E (mLo m)) :=
  pe_imp h fun σ H Q ⟨G, g, δ, re, po⟩ => tOfL.step re po fun a l g1 H1 δ1 e1 re1 r1 po1 => Post.of po1 re1 _ (.lo r1)
def mD (m : M Cl) : M D := mBind m fun c => mOpt (toD c)
def mL (m : M Cl) : M Nat := mBind m fun c => mOpt (toL c)
theorem je_cell {m : M Cl} (h : PE X e (tOfC X.K E m)) : PE X e (tOf X.K E (mD m)) :=
  pe_imp h fun σ H Q ⟨G, g, δ, re, po⟩ => tOfC.step re po fun v c g1 H1 δ1 e1 re1 r1 po1 => by
    obtain ⟨d, hd, po2⟩ := Post.opt po1
    cases r1 with
    | sh r => cases hd; exact Post.of po2 re1 v r
    | lo r => cases hd
theorem jl_cell {m : M Cl} (h : PE X e (tOfC X.K E m)) : PE X e (tOfL X.K E (mL m)) :=
  pe_imp h fun σ H Q ⟨G, g, δ, re, po⟩ => tOfC.step re po fun v c g1 H1 δ1 e1 re1 r1 po1 => by
    obtain ⟨d, hd, po2⟩ := Post.opt po1
    cases r1 with
    | sh r => cases hd
    | lo r => cases hd; exact Post.of po2 re1 _ r
/-- a constant -/
def mC (d : D) : M D := mPure d
theorem je_c {t : TE} {d : D} {v : V} (h : PE X e (tC v)) (hv : ∀ H, Rp X.K H v d) : PE X e (tOf X.K E (mC d)) :=
  pe_imp h fun σ H Q ⟨G, g, δ, re, po⟩ => Post.of po re v (hv g.h)
theorem je_int {i : Int} {j pos} : PE X (.Constant (.int i) j pos) (tOf X.K E (mC (.int i))) := je_c (t := tC (.int i)) pe_int fun _ => .int i
theorem je_bl {i : Bool} {j pos} : PE X (.Constant (.bool i) j pos) (tOf X.K E (mC (.bool i))) := je_c (t := tC (.bl i)) pe_bl fun _ => .bl i
theorem je_non {j pos} : PE X (.Constant .none j pos) (tOf X.K E (mC .none)) := je_c (t := tC .non) pe_non fun _ => .non
theorem je_str {x : Str} {j pos} : PE X (.Constant (.str x) j pos) (tOf X.K E (mC (.str x))) := je_c (t := tC (.str x)) pe_str fun _ => .str x
theorem je_glob {x : Str} {v : V} {u : Value} {d : D} (hg : Gl X x) (hm : X.mg x = some u) (r : RelV v u) (hv : ∀ H, Rp X.K H v d) (hd : (x == ("__debug__" : Str)) = false := by decide) : PE X (.Name x pos) (tOf X.K E (mC d)) := je_c (t := tC v) (pe_glob hg hm r hd) hv
def mBin (f : D → D → Option D) (ma mb : M D) : M D := mBind ma fun d => mBind mb fun e => mOpt (f d e)
theorem binS {r : R2} {f : D → D → Option D} (hr : OpS X.K r f) {σ : L2.St} {H : Hp} {Q : VK} (h : tOf X.K E (mBin f ma mb) σ H Q) : tOp r (tOf X.K E ma) (tOf X.K E mb) σ H Q := by
  obtain ⟨G, g, δ, re, po⟩ := h
  refine tOf.step re po fun x d g1 H1 δ1 e1 re1 r1 po1 => ?_
  refine tOf.step re1 po1 fun y e g2 H2 δ2 e2 re2 r2 po2 => ?_
  obtain ⟨c, hc, po3⟩ := Post.opt po2
  exact hr g2.h H2 x y d e c Q re2.ex (r1.ex e2.h) r2 hc fun v Hs' H' w rv => Post.grow po3 re2 (Grw.of w) v rv
theorem je_bin {op : Operator} {r : R2} {f : D → D → Option D} (ho : OpR X (binaryOp op) r) (hr : OpS X.K r f) (ha : PE X a (tOf X.K E ma)) (hb : PE X b (tOf X.K E mb)) : PE X (.BinOp a op b pos) (tOf X.K E (mBin f ma mb)) :=
  pe_imp (pe_op ho ha hb) fun _ _ _ h => binS hr h
theorem je_cmp {op : CmpOp} {r : R2} {f : D → D → Option D} (ho : OpR X (compareOp op) r) (hr : OpS X.K r f) (ha : PE X a (tOf X.K E ma)) (hb : PE X b (tOf X.K E mb)) (hm : behindInMarks op b = false) : PE X (.Compare a [op] [b] pos) (tOf X.K E (mBin f ma mb)) :=
  pe_imp (pe_cmpR ho ha hb hm) fun _ _ _ h => binS hr h
def mTest (m : M D) : M Bool := mBind m fun d => mOpt (toB d)
theorem testS {t : TE} {m : M D} (h : ∀ σ H Q, tOf X.K E m σ H Q → t σ H Q) {σ : L2.St} {H : Hp} {Q : Bool → Hp → Prop} (q : tOfT X.K E (mTest m) σ H Q) : tTest t σ H Q := by
  obtain ⟨G, g, δ, re, po⟩ := q
  refine h _ _ _ (tOf.step re po fun x d g1 H1 δ1 e1 re1 r1 po1 => ?_)
  obtain ⟨c, hc, po3⟩ := Post.opt po1
  cases r1 <;> simp [toB] at hc
  subst hc
  exact ⟨_, rfl, Post.of po3 re1⟩
theorem jt_cmp {op : CmpOp} {r : R2} {f : D → D → Option D} (ho : OpR X (compareOp op) r) (hr : OpS X.K r f) (ha : PE X a (tOf X.K E ma)) (hb : PE X b (tOf X.K E mb)) (hm : behindInMarks op b = false) : PT X (.Compare a [op] [b] pos) (tOfT X.K E (mTest (mBin f ma mb))) :=
  pt_imp (pt_cmpR ho ha hb hm) fun _ _ _ h => testS (fun _ _ _ => binS hr) h
theorem jt_val {m : M D} (h : PE X e (tOf X.K E m)) (he : ∀ whole, isTrue e X.env whole = (do let v ← whole; standAt e.pos; holding [v] (truthy v)) := by intro _; rfl) : PT X e (tOfT X.K E (mTest m)) :=
  pt_imp (pt_val h he) fun _ _ _ q => testS (fun _ _ _ z => z) q
def mChain (f f' : D → D → Option D) (ma mb mc : M D) : M D := mBind ma fun d => mBind mb fun e => mBind (mOpt ((f d e).bind toB)) fun k => if k then mBind mc fun z => mOpt (f' e z) else mPure (.bool false)
variable {c : Expr} {mc : M D}
theorem chainS {r r' : R2} {f f' : D → D → Option D} (hr : OpB X.K r f) (hr' : OpS X.K r' f') {σ : L2.St} {H : Hp} {Q : VK} (h : tOf X.K E (mChain f f' ma mb mc) σ H Q) : tChain r r' (tOf X.K E ma) (tOf X.K E mb) (tOf X.K E mc) σ H Q := by
  obtain ⟨G, g, δ, re, po⟩ := h
  refine tOf.step re po fun x d g1 H1 δ1 e1 re1 r1 po1 => ?_
  refine tOf.step re1 po1 fun y e g2 H2 δ2 e2 re2 r2 po2 => ?_
  obtain ⟨k, hk, po3⟩ := Post.optB po2
  refine hr g2.h H2 x y d e k _ re2.ex (r1.ex e2.h) r2 hk ⟨k, rfl, ?_⟩
  cases k with
  | true =>
    rw [if_pos rfl] at po3 ⊢
    refine tOf.step re2 po3 fun z f g3 H3 δ3 e3 re3 r3 po4 => ?_
    obtain ⟨c, hc, po5⟩ := Post.opt po4
    exact hr' g3.h H3 y z e f c Q re3.ex (r2.ex e3.h) r3 hc fun v Hs' H' w rv => Post.grow po5 re3 (Grw.of w) v rv
  | false =>
    rw [if_neg Bool.false_ne_true] at po3 ⊢
    exact Post.of po3 re2 _ (.bl false)
theorem je_chain {op op' : CmpOp} {r r' : R2} {f f' : D → D → Option D} (ho : OpR X (compareOp op) r) (ho' : OpR X (compareOp op') r') (hr : OpB X.K r f) (hr' : OpS X.K r' f') (ha : PE X a (tOf X.K E ma)) (hb : PE X b (tOf X.K E mb)) (hc : PE X c (tOf X.K E mc))
    (hm : lastMarks [op, op'] [b, c] = false := by with_unfolding_all rfl) : PE X (.Compare a [op, op'] [b, c] pos) (tOf X.K E (mChain f f' ma mb mc)) :=
  pe_imp (pe_chain ho ho' ha hb hc hm) fun _ _ _ h => chainS hr hr' h
theorem je_ix (ha : PE X a (tOf X.K E ma)) (hb : PE X b (tOf X.K E mb)) (hs : PlainIx b) : PE X (.Subscript a b pos) (tOf X.K E (mBin dIx ma mb)) :=
  pe_imp (pe_ix ix_seq ha hb hs) fun _ _ _ h => binS os_ix h
def tOfP (K : Frag) (E : XQ) (m : M (Option Int)) : TO := fun σ H Q => Cf K E m σ H fun _ o _ H' _ => Q o H'
def mPart (m : M D) : M (Option Int) := mBind m fun d => mOpt (toI d)
def mNoPart : M (Option Int) := mPure none
theorem jp_none : PO X none (tOfP X.K E mNoPart) := ⟨fun pins s σ H Q I ⟨G, g, δ, re, po⟩ => po_none.run pins s σ H Q I (Post.of po re)⟩
theorem jp_some (h : PE X e (tOf X.K E m)) : PO X (some e) (tOfP X.K E (mPart m)) := ⟨fun pins s σ H Q I ⟨G, g, δ, re, po⟩ => (po_some h).run pins s σ H Q I (by
  refine tOf.step re po fun x d g1 H1 δ1 e1 re1 r1 po1 => ?_
  obtain ⟨c, hc, po3⟩ := Post.opt po1
  cases r1 <;> simp [toI] at hc
  subst hc
  exact ⟨_, rfl, Post.of po3 re1⟩)⟩
def mSl (m : M D) (ml mh : M (Option Int)) : M D := mBind m fun d => mBind ml fun l => mBind mh fun h => mOpt (dSl d l h)
theorem je_slice {lo hi : Option Expr} {ml mh : M (Option Int)} {p2 : Pos} (he : PE X e (tOf X.K E m)) (hl : PO X lo (tOfP X.K E ml)) (hu : PO X hi (tOfP X.K E mh)) : PE X (.Subscript e (.Slice lo hi none p2) pos) (tOf X.K E (mSl m ml mh)) :=
  pe_imp (pe_slice sl_Z he hl hu) fun σ H Q ⟨G, g, δ, re, po⟩ => by
    refine tOf.step re po fun x d g1 H1 δ1 e1 re1 r1 po1 => ?_
    refine Cf.step re1 po1 fun l g2 H2 δ2 e2 re2 po2 => ?_
    refine Cf.step re2 po2 fun u g3 H3 δ3 e3 re3 po3 => ?_
    obtain ⟨c, hc, po4⟩ := Post.opt po3
    exact slS re3.ex ((r1.ex e2.h).ex e3.h) hc fun v Hs' H' w rv => Post.grow po4 re3 (Grw.of w) v rv
variable {t1 t2 : M Bool} {rest : List Expr}
def mAndT (t1 t2 : M Bool) : M Bool := mBind t1 fun b => if b then t2 else mPure false
def mOrT (t1 t2 : M Bool) : M Bool := mBind t1 fun b => if b then mPure true else t2
def mNotT (t : M Bool) : M Bool := mBind t fun b => mPure (!b)
theorem jt_not (h : PT X a (tOfT X.K E t1)) : PT X (.UnaryOp .Not a pos) (tOfT X.K E (mNotT t1)) :=
  pt_imp (pt_not h) fun σ H Q ⟨G, g, δ, re, po⟩ => tOfT.step re po fun b g1 H1 δ1 e1 re1 po1 => Post.of po1 re1
theorem jw_and1 (h : PT X a (tOfT X.K E t1)) : PW X (.BoolOp .And [a] pos) (tOfT X.K E t1) := pw_and1 h
theorem jw_or1 (h : PT X a (tOfT X.K E t1)) : PW X (.BoolOp .Or [a] pos) (tOfT X.K E t1) := pw_or1 h
theorem jw_and (h : PT X a (tOfT X.K E t1)) (h2 : PW X (.BoolOp .And (b :: rest) pos) (tOfT X.K E t2)) : PW X (.BoolOp .And (a :: b :: rest) pos) (tOfT X.K E (mAndT t1 t2)) :=
  pw_imp (pw_and h h2) fun σ H Q ⟨G, g, δ, re, po⟩ => tOfT.step re po fun b g1 H1 δ1 e1 re1 po1 => by
    cases b with
    | true => exact Cf.last re1 po1
    | false => exact Post.of po1 re1
theorem jw_or (h : PT X a (tOfT X.K E t1)) (h2 : PW X (.BoolOp .Or (b :: rest) pos) (tOfT X.K E t2)) : PW X (.BoolOp .Or (a :: b :: rest) pos) (tOfT X.K E (mOrT t1 t2)) :=
  pw_imp (pw_or h h2) fun σ H Q ⟨G, g, δ, re, po⟩ => tOfT.step re po fun b g1 H1 δ1 e1 re1 po1 => by
    cases b with
    | true => exact Post.of po1 re1
    | false => exact Cf.last re1 po1
def mAndV (m1 m2 : M D) : M D := mBind (mTest m1) fun b => if b then m2 else mPure (.bool false)
def mOrV (m1 m2 : M D) : M D := mBind (mTest m1) fun b => if b then mPure (.bool true) else m2
def mNotV (m : M D) : M D := mBind (mTest m) fun b => mPure (.bool (!b))
theorem bind_assoc {α β γ : Type} {m : M α} {f : α → M β} {h : β → M γ} (δ : Sx) : mBind (mBind m f) h δ = mBind m (fun a => mBind (f a) h) δ := by
  unfold mBind
  cases m δ <;> rfl
theorem testV {G : Hp} {g : Gh} {H : Hp} {σ : L2.St} {δ : Sx} {β : Type} {f : Bool → M β} {QQ : β → Gh → Hp → Sx → Prop} {K : Frag} {R : V → Hp → Prop} (re : RE K G g H σ δ) (po : Post K E G g σ (mBind (mTest m) f δ) QQ)
    (k : ∀ b g1 H1 δ1, Le g g1 → RE K G g1 H1 σ δ1 → Post K E G g1 σ (f b δ1) QQ → R (.bl b) H1) : tOf K E m σ H R := by
  unfold mTest at po
  rw [bind_assoc] at po
  refine tOf.step re po fun x d g1 H1 δ1 e1 re1 r1 po1 => ?_
  cases r1 with
  | bl b => exact k b g1 H1 δ1 e1 re1 po1
  | _ => exact po1.elim
theorem je_and (h : PE X a (tOf X.K E ma)) (h2 : PE X (.BoolOp .And (b :: rest) pos) (tOf X.K E mb)) : PE X (.BoolOp .And (a :: b :: rest) pos) (tOf X.K E (mAndV ma mb)) :=
  pe_imp (pe_and h h2) fun σ H Q ⟨G, g, δ, re, po⟩ => testV re po fun b g1 H1 δ1 e1 re1 po1 => ⟨b, rfl, by
    cases b with
    | true => exact Cf.last re1 po1
    | false => exact Post.of po1 re1 _ (.bl false)⟩
theorem je_or (h : PE X a (tOf X.K E ma)) (h2 : PE X (.BoolOp .Or (b :: rest) pos) (tOf X.K E mb)) : PE X (.BoolOp .Or (a :: b :: rest) pos) (tOf X.K E (mOrV ma mb)) :=
  pe_imp (pe_or h h2) fun σ H Q ⟨G, g, δ, re, po⟩ => testV re po fun b g1 H1 δ1 e1 re1 po1 => ⟨b, rfl, by
    cases b with
    | true => exact Post.of po1 re1 _ (.bl true)
    | false => exact Cf.last re1 po1⟩
theorem je_one {op : BoolOp} (h : PE X a (tOf X.K E ma)) : PE X (.BoolOp op [a] pos) (tOf X.K E ma) := pe_one h
theorem je_not (h : PE X a (tOf X.K E ma)) : PE X (.UnaryOp .Not a pos) (tOf X.K E (mNotV ma)) :=
  pe_imp (pe_not h) fun σ H Q ⟨G, g, δ, re, po⟩ => testV re po fun b g1 H1 δ1 e1 re1 po1 => ⟨b, rfl, Post.of po1 re1 _ (.bl _)⟩
def mIfE (t : M Bool) (m1 m2 : M D) : M D := mBind t fun b => if b then m1 else m2
def mNeg (m : M D) : M D := mBind m fun d => mOpt (dNeg d)
theorem je_neg (h : PE X a (tOf X.K E ma)) : PE X (.UnaryOp .USub a pos) (tOf X.K E (mNeg ma)) :=
  pe_imp (pe_un un_neg h) fun σ H Q ⟨G, g, δ, re, po⟩ => tOf.step re po fun x d g1 H1 δ1 e1 re1 r1 po1 => by
    obtain ⟨c, hc, po3⟩ := Post.opt po1
    cases r1 <;> simp [dNeg] at hc
    subst hc
    exact ⟨_, rfl, Post.of po3 re1 _ (.int _)⟩
/-- a fresh list, as data, as one of the store's -/
def mFr (m : M (List Cl)) : M D := mBind m fun xs => mOpt ((shL xs).map PyData.list)
theorem je_fr {m : M (List Cl)} (h : PE X e (tOfO X.K E m)) : PE X e (tOf X.K E (mFr m)) :=
  pe_imp h fun σ H Q ⟨G, g, δ, re, po⟩ => tOfO.step re po fun a xs g1 H1 δ1 e1 re1 f1 po1 => by
    obtain ⟨d, hd, po2⟩ := Post.opt po1
    obtain ⟨ds, h1, h2⟩ := Option.map_eq_some_iff.mp hd
    subst h2
    obtain ⟨g2, k1, _, k2, k3⟩ := re1.freeze f1 h1
    exact po2 g2 H1 k1 k2 _ k3
def mAll (o : Ob) : M Nat := fun δ => .ok δ.s.length ⟨δ.e, δ.s ++ [o]⟩
def mNew (m : M (List Cl)) : M Nat := mBind m fun xs => mAll (.lst xs)
theorem allS {K : Frag} {G : Hp} {g : Gh} {H : Hp} {σ : L2.St} {δ : Sx} {a : Addr} {o : Ob} {QQ : Nat → Gh → Hp → Sx → Prop} (re : RE K G g H σ δ) (f : Fro K G g H a o) (po : Post K E G g σ (mAll o δ) QQ) : ∃ g', QQ δ.s.length g' H ⟨δ.e, δ.s ++ [o]⟩ ∧ g'.r[δ.s.length]? = some a := by
  obtain ⟨le, re'⟩ := re.alloc f
  refine ⟨_, po _ H le re', ?_⟩
  show (g.r ++ [a])[δ.s.length]? = some a
  rw [← re.rl, List.getElem?_append_right (Nat.le_refl _), Nat.sub_self]
  rfl
theorem jl_new {m : M (List Cl)} (h : PE X e (tOfO X.K E m)) : PE X e (tOfL X.K E (mNew m)) :=
  pe_imp h fun σ H Q ⟨G, g, δ, re, po⟩ => tOfO.step re po fun a xs g1 H1 δ1 e1 re1 f1 po1 => by
    obtain ⟨g2, k1, k2⟩ := allS re1 f1.fro po1
    exact k1 a k2
/-- a list of the store, at last data -/
def mSeal (m : M Nat) : M D := mBind m fun l δ => match δ.s[l]? with
  | some (.lst xs) => match shL xs with
    | some ds => .ok (.list ds) ⟨δ.e, δ.s.set l .gone⟩
    | none => .bad
  | _ => .bad
theorem je_seal {m : M Nat} (h : PE X e (tOfL X.K E m)) : PE X e (tOf X.K E (mSeal m)) :=
  pe_imp h fun σ H Q ⟨G, g, δ, re, po⟩ => tOfL.step re po fun a l g1 H1 δ1 e1 re1 f1 po1 => by
    split at po1
    · rename_i xs hx
      split at po1
      · rename_i ds hd
        obtain ⟨g2, k1, _, k2, k3⟩ := re1.seal hx f1 hd
        exact po1 g2 H1 k1 k2 _ k3
      · exact po1.elim
    · exact po1.elim
end
end Ds
namespace Ds
open PySem PySem.Spec PyProof.Rows L2 Dn
def evA : List (M Cl) → M (List Cl)
  | [] => mPure []
  | m :: as => mBind m fun c => mBind (evA as) fun cs => mPure (c :: cs)
/-- what a cell holds now, as data -/
def snap (s : List Ob) : Cl → Option D
  | .sh d => some d
  | .lo l => match s[l]? with
    | some (.lst xs) => (shL xs).map PyData.list
    | _ => none
  | .no => none
def snaps (s : List Ob) : List Cl → Option (List D)
  | [] => some []
  | c :: cs => (snap s c).bind fun d => (snaps s cs).map (d :: ·)
section
variable {K : Frag} {G : Hp} {g : Gh} {H : Hp} {σ : L2.St} {δ : Sx}
theorem RE.lstAt (r : RE K G g H σ δ) {l : Nat} {a : Addr} {xs : List Cl} (h : g.r[l]? = some a) (hx : δ.s[l]? = some (.lst xs)) : ∃ vs, H a = some (.lst vs) ∧ All2 (CR K g) vs xs := by
  obtain ⟨b, u, h1, h2, h3, h4⟩ := r.ob l _ hx rfl
  rw [h] at h1
  cases h1
  cases h3 with
  | lst h3 => exact ⟨_, h2, h3⟩
theorem snap_lo {s : List Ob} {l : Nat} {d : D} (h : snap s (.lo l) = some d) : ∃ xs ds, s[l]? = some (.lst xs) ∧ shL xs = some ds ∧ d = .list ds := by
  have h : (match s[l]? with
    | some (.lst xs) => (shL xs).map PyData.list
    | _ => none) = some d := h
  split at h
  · rename_i xs hx
    obtain ⟨ds, h3, h4⟩ := Option.map_eq_some_iff.mp h
    exact ⟨xs, ds, hx, h3, h4.symm⟩
  · cases h
theorem snap_rp (r : RE K G g H σ δ) : ∀ {v : V} {c : Cl} {d : D}, CR K g v c → snap δ.s c = some d → Rp K H v d
  | _, _, d, .sh h, q => by cases q; exact h.ex r.ex
  | _, .lo l, d, .lo h, q => by
    obtain ⟨xs, ds, hx, h3, rfl⟩ := snap_lo q
    obtain ⟨vs, h1, h2⟩ := r.lstAt h hx
    exact .lst (SqL.of h1) ((shL_rps h2 h3).ex r.ex)
theorem snaps_rp (r : RE K G g H σ δ) : ∀ {vs : List V} {cs : List Cl} {ds : List D}, All2 (CR K g) vs cs → snaps δ.s cs = some ds → Rps K H vs ds
  | _, _, ds, .nil, q => by cases q; exact .nil
  | _, _, ds, .cons h t, q => by
    unfold snaps at q
    obtain ⟨d, h1, h2⟩ := Option.bind_eq_some_iff.mp q
    obtain ⟨es, h3, h4⟩ := Option.map_eq_some_iff.mp h2
    subst h4
    exact .cons (snap_rp r h h1) (snaps_rp r t h3)
/-- new things of no account -/
theorem Post.late {E : XQ} {α : Type} {a : α} {H' : Hp} {QQ : α → Gh → Hp → Sx → Prop} (po : Post K E G g σ (.ok a δ) QQ) (r : RE K G g H σ δ) (e : Ex H H') : QQ a g H' δ := po g H' (Le.refl _) (r.newH e)
end
section
variable {X : Cx} {E : XQ} {a b e o : Expr} {es : List Expr} {pos : Pos} {ma mb m : M D} {mc mk : M Cl} {as : List (M Cl)}
theorem ja_nil : PA X [] (tOfA X.K E (evA [])) := pa_imp pa_nil fun σ H Q ⟨G, g, δ, re, po⟩ => Post.of po re [] .nil
theorem ja_c (h : PE X e (tOfC X.K E mc)) (t : PA X es (tOfA X.K E (evA as))) (hs : starEach (e :: es) X.env = (false, eval e X.env) :: starEach es X.env := by rfl) : PA X (e :: es) (tOfA X.K E (evA (mc :: as))) :=
  pa_imp (pa_cons h t hs) fun σ H Q ⟨G, g, δ, re, po⟩ => tOfC.step re po fun v c g1 H1 δ1 e1 re1 r1 po1 => tOfA.step re1 po1 fun vs cs g2 H2 δ2 e2 re2 r2 po2 => Post.of po2 re2 (v :: vs) (.cons (r1.le e2) r2)
def mCallB (f : List D → Option D) (as : List (M Cl)) : M D := mBind (evA as) fun cs => mOpt ((shL cs).bind f)
/-- lists of the store may stand among the arguments; what comes back is flat -/
def mCallC (f : List D → Option D) (as : List (M Cl)) : M D := mBind (evA as) fun cs δ => match (snaps δ.s cs).bind f with
  | some d => if flatD d = true then .ok d δ else .bad
  | none => .bad
theorem callS {r : List V → Hp → VK → Prop} {f : List D → Option D} (hr : CallS X.K r f) {σ : L2.St} {H : Hp} {Q : VK} (h : tOf X.K E (mCallB f as) σ H Q) : tCB r (tOfA X.K E (evA as)) σ H Q := by
  obtain ⟨G, g, δ, re, po⟩ := h
  refine tOfA.step re po fun vs cs g1 H1 δ1 e1 re1 r1 po1 => ?_
  obtain ⟨c, hc, po2⟩ := Post.opt po1
  obtain ⟨ds, h1, h2⟩ := Option.bind_eq_some_iff.mp hc
  exact hr g1.h H1 vs ds c Q re1.ex (shL_rps r1 h1) h2 fun v Hs' H' w rv => Post.grow po2 re1 (Grw.of w) v rv
theorem callC {r : List V → Hp → VK → Prop} {f : List D → Option D} (hr : CallS X.K r f) {σ : L2.St} {H : Hp} {Q : VK} (h : tOf X.K E (mCallC f as) σ H Q) : tCB r (tOfA X.K E (evA as)) σ H Q := by
  obtain ⟨G, g, δ, re, po⟩ := h
  refine tOfA.step re po fun vs cs g1 H1 δ1 e1 re1 r1 po1 => ?_
  split at po1
  · rename_i d hd
    obtain ⟨ds, h1, h2⟩ := Option.bind_eq_some_iff.mp hd
    split at po1
    · rename_i hf
      exact hr H1 H1 vs ds d Q (Ex.refl _) (snaps_rp re1 r1 h1) h2 fun v Hs' H' w rv => Post.late po1 re1 w.h v (flat_free rv hf)
    · exact po1.elim
  · exact po1.elim
theorem je_callB {x : Str} {p : Pos} {id : String} {r : List V → Hp → VK → Prop} {f : List D → Option D} (hc : CallR X (.builtin id) r) (hr : CallS X.K r f) (hg : Gl X x) (hm : X.mg x = none) (hv : bootBuiltins x = some (.builtin id)) (ha : PA X (e :: es) (tOfA X.K E (evA as))) (hn : x ≠ "__name__" := by decide) (hdb : (x == ("__debug__" : Str)) = false := by decide)
    (he : starEach (e :: es) X.env = (false, eval e X.env) :: starEach es X.env := by rfl) (hpl : (backTo pos (starEach es X.env)).any (·.1) = false := by rfl) : PE X (.Call (.Name x p) (e :: es) [] pos) (tOf X.K E (mCallB f as)) :=
  pe_imp (pe_callB hc hg hm hv ha hn hdb he hpl) fun _ _ _ h => callS hr h
theorem je_callTy {x : Str} {p : Pos} {T : String} {r : List V → Hp → VK → Prop} {f : List D → Option D} (hc : CallR X (.type T) r) (hr : CallS X.K r f) (hg : Gl X x) (hm : X.mg x = none) (hv : bootBuiltins x = some (.type T)) (ha : PA X (e :: es) (tOfA X.K E (evA as))) (hn : x ≠ "__name__" := by decide) (hdb : (x == ("__debug__" : Str)) = false := by decide)
    (he : starEach (e :: es) X.env = (false, eval e X.env) :: starEach es X.env := by rfl) (hpl : (backTo pos (starEach es X.env)).any (·.1) = false := by rfl) : PE X (.Call (.Name x p) (e :: es) [] pos) (tOf X.K E (mCallB f as)) :=
  pe_imp (pe_callTy hc hg hm hv ha hn hdb he hpl) fun _ _ _ h => callS hr h
theorem je_callBC {x : Str} {p : Pos} {id : String} {r : List V → Hp → VK → Prop} {f : List D → Option D} (hc : CallR X (.builtin id) r) (hr : CallS X.K r f) (hg : Gl X x) (hm : X.mg x = none) (hv : bootBuiltins x = some (.builtin id)) (ha : PA X (e :: es) (tOfA X.K E (evA as))) (hn : x ≠ "__name__" := by decide) (hdb : (x == ("__debug__" : Str)) = false := by decide)
    (he : starEach (e :: es) X.env = (false, eval e X.env) :: starEach es X.env := by rfl) (hpl : (backTo pos (starEach es X.env)).any (·.1) = false := by rfl) : PE X (.Call (.Name x p) (e :: es) [] pos) (tOf X.K E (mCallC f as)) :=
  pe_imp (pe_callB hc hg hm hv ha hn hdb he hpl) fun _ _ _ h => callC hr h
/-- list(x): a fresh one -/
def itemsD : D → Option (List D)
  | .list xs => some xs
  | .tuple xs => some xs
  | _ => none
def mListOf (mc : M Cl) : M (List Cl) := mBind (evA [mc]) fun cs δ => match snaps δ.s cs with
  | some [d] => match itemsD d with
    | some xs => .ok (xs.map Cl.sh) δ
    | none => .bad
  | _ => .bad
theorem FrO.new {K : Frag} {G : Hp} {g : Gh} {H : Hp} {σ : L2.St} {δ : Sx} {p : Addr} {vs : List V} {xs : List Cl} (re : RE K G g H σ δ) (hp : H p = none) (h : All2 (CR K g) vs xs) : FrO K G g (upd H p (.lst vs)) p xs :=
  ⟨⟨vs, upd_same, h⟩, ex_none re.ex hp, (by
    cases q : G p with
    | none => rfl
    | some u => have := (re.fg p u q).1; rw [hp] at this; cases this), re.nin hp⟩
/-- the items of a list or tuple: in the store, or data -/
theorem snap_items {K : Frag} {G : Hp} {g : Gh} {H : Hp} {σ : L2.St} {δ : Sx} (r : RE K G g H σ δ) {v : V} {c : Cl} {d : D} {xs : List D} (h : CR K g v c) (hs : snap δ.s c = some d) (hi : itemsD d = some xs) : ∃ p ys, v = .ref p ∧ (SqL K H p ys ∨ SqT K H p ys) ∧ Rps K g.h ys xs := by
  cases h with
  | sh h =>
    cases hs
    cases h with
    | lst h1 t => cases hi; exact ⟨_, _, rfl, .inl (sqL_ex r.ex h1), t⟩
    | tup h1 t => cases hi; exact ⟨_, _, rfl, .inr (sqT_ex r.ex h1), t⟩
    | _ => cases hi
  | lo h =>
    obtain ⟨ys, ds, hx, h3, rfl⟩ := snap_lo hs
    obtain ⟨vs, h1, h2⟩ := r.lstAt h hx
    cases hi
    exact ⟨_, vs, rfl, .inl (SqL.of h1), shL_rps h2 h3⟩
theorem jo_listOf {p : Pos} (hg : Gl X "list") (hm : X.mg "list" = none) (hv : bootBuiltins "list" = some (.type "list")) (h : PE X e (tOfC X.K E mc))
    (he : starEach [e] X.env = (false, eval e X.env) :: starEach [] X.env := by rfl) (hpl : (backTo pos (starEach [] X.env)).any (·.1) = false := by rfl) : PE X (.Call (.Name "list" p) [e] [] pos) (tOfO X.K E (mListOf mc)) :=
  pe_imp (pe_callTy call_list_of hg hm hv (ja_c h ja_nil he) (by decide) (by decide) he hpl) fun σ H Q ⟨G, g, δ, re, po⟩ => by
    refine tOfA.step re po fun vs cs g1 H1 δ1 e1 re1 r1 po1 => ?_
    split at po1
    · rename_i d hd
      split at po1
      · rename_i xs hx
        cases r1 with
        | nil => cases hd
        | cons h t =>
          cases t with
          | cons _ _ =>
            unfold snaps at hd
            obtain ⟨d1, h1, h2⟩ := Option.bind_eq_some_iff.mp hd
            obtain ⟨es, h3, h4⟩ := Option.map_eq_some_iff.mp h2
            unfold snaps at h3
            obtain ⟨d2, h5, h6⟩ := Option.bind_eq_some_iff.mp h3
            obtain ⟨es', h7, h8⟩ := Option.map_eq_some_iff.mp h6
            subst h8
            cases h4
          | nil =>
            unfold snaps at hd
            obtain ⟨d1, h1, h2⟩ := Option.bind_eq_some_iff.mp hd
            have h2 : some [d1] = some [d] := h2
            cases h2
            obtain ⟨q, ys, hv', hsq, hr⟩ := snap_items re1 h h1 hx
            subst hv'
            exact ⟨q, ys, rfl, hsq, fun l hl => Post.late po1 re1 (ex_new hl) l (FrO.new re1 hl (rps_cr hr))⟩
      · exact po1.elim
    · exact po1.elim
/-- tuple(x), x one of the store's -/
def mTupOf (mc : M Cl) : M D := mBind (evA [mc]) fun cs δ => match snaps δ.s cs with
  | some [d] => match itemsD d with
    | some xs => .ok (.tuple xs) δ
    | none => .bad
  | _ => .bad
theorem snaps_one {K : Frag} {g : Gh} {δ : Sx} {vs : List V} {cs : List Cl} {d : D} (r1 : All2 (CR K g) vs cs) (hd : snaps δ.s cs = some [d]) : ∃ v c, vs = [v] ∧ cs = [c] ∧ CR K g v c ∧ snap δ.s c = some d := by
  cases r1 with
  | nil => cases hd
  | cons h t =>
    unfold snaps at hd
    obtain ⟨d1, h1, h2⟩ := Option.bind_eq_some_iff.mp hd
    obtain ⟨es, h3, h4⟩ := Option.map_eq_some_iff.mp h2
    cases t with
    | nil =>
      cases h3
      cases h4
      exact ⟨_, _, rfl, rfl, h, h1⟩
    | cons _ _ =>
      unfold snaps at h3
      obtain ⟨d2, h5, h6⟩ := Option.bind_eq_some_iff.mp h3
      obtain ⟨es', h7, h8⟩ := Option.map_eq_some_iff.mp h6
      subst h8
      cases h4
theorem je_tupOf {p : Pos} (hg : Gl X "tuple") (hm : X.mg "tuple" = none) (hv : bootBuiltins "tuple" = some (.type "tuple")) (h : PE X e (tOfC X.K E mc))
    (he : starEach [e] X.env = (false, eval e X.env) :: starEach [] X.env := by rfl) (hpl : (backTo pos (starEach [] X.env)).any (·.1) = false := by rfl) : PE X (.Call (.Name "tuple" p) [e] [] pos) (tOf X.K E (mTupOf mc)) :=
  pe_imp (pe_callTy call_tuple_of hg hm hv (ja_c h ja_nil he) (by decide) (by decide) he hpl) fun σ H Q ⟨G, g, δ, re, po⟩ => by
    refine tOfA.step re po fun vs cs g1 H1 δ1 e1 re1 r1 po1 => ?_
    split at po1
    · rename_i d hd
      split at po1
      · rename_i xs hx
        obtain ⟨v, c, rfl, rfl, hc, hs⟩ := snaps_one r1 hd
        cases hc with
        | sh h =>
          cases hs
          cases h with
          | lst h1 t =>
            cases hx
            exact ⟨_, _, rfl, .inl ⟨sqL_ex re1.ex h1, fun p hp => Post.grow po1 re1 (Grw.new re1.ex hp) _ (.tup (StT.of upd_same) (t.ex (Gr.new re1.ex hp).s))⟩⟩
          | tup h1 t =>
            cases hx
            exact ⟨_, _, rfl, .inr ⟨sqT_ex re1.ex h1, Post.of po1 re1 _ (.tup h1 t)⟩⟩
          | _ => cases hx
        | lo h =>
          obtain ⟨ys, ds, hxs, h3, rfl⟩ := snap_lo hs
          obtain ⟨vs, h1, h2⟩ := re1.lstAt h hxs
          cases hx
          exact ⟨_, vs, rfl, .inl ⟨SqL.of h1, fun p hp => Post.grow po1 re1 (Grw.new re1.ex hp) _ (.tup (StT.of upd_same) ((shL_rps h2 h3).ex (Gr.new re1.ex hp).s))⟩⟩
      · exact po1.elim
    · exact po1.elim
def mBinC (f : D → D → Option D) (mc mk : M Cl) : M D := mBind mc fun c => mBind mk fun k δ => match (snap δ.s c).bind fun d => (snap δ.s k).bind fun e => f d e with
  | some d => if flatD d = true then .ok d δ else .bad
  | none => .bad
theorem binC {r : R2} {f : D → D → Option D} (hr : OpS X.K r f) {σ : L2.St} {H : Hp} {Q : VK} (h : tOf X.K E (mBinC f mc mk) σ H Q) : tOp r (tOfC X.K E mc) (tOfC X.K E mk) σ H Q := by
  obtain ⟨G, g, δ, re, po⟩ := h
  refine tOfC.step re po fun x d g1 H1 δ1 e1 re1 r1 po1 => ?_
  refine tOfC.step re1 po1 fun y e g2 H2 δ2 e2 re2 r2 po2 => ?_
  split at po2
  · rename_i d' hd
    obtain ⟨d1, h1, h2⟩ := Option.bind_eq_some_iff.mp hd
    obtain ⟨d2, h3, h4⟩ := Option.bind_eq_some_iff.mp h2
    split at po2
    · rename_i hf
      exact hr H2 H2 x y d1 d2 d' Q (Ex.refl _) (snap_rp re2 (r1.le e2) h1) (snap_rp re2 r2 h3) h4 fun v Hs' H' w rv => Post.late po2 re2 w.h v (flat_free rv hf)
    · exact po2.elim
  · exact po2.elim
theorem jt_cmpC {op : CmpOp} {r : R2} {f : D → D → Option D} (ho : OpR X (compareOp op) r) (hr : OpS X.K r f) (ha : PE X a (tOfC X.K E mc)) (hb : PE X b (tOfC X.K E mk)) (hm : behindInMarks op b = false) : PT X (.Compare a [op] [b] pos) (tOfT X.K E (mTest (mBinC f mc mk))) :=
  pt_imp (pt_cmpR ho ha hb hm) fun _ _ _ h => testS (fun _ _ _ => binC hr) h
def ixC (s : List Ob) (c : Cl) (e : D) : Option Cl := match c with
  | .sh d => (dIx d e).map Cl.sh
  | .lo l => match s[l]?, e with
    | some (.lst xs), .int i => atI xs i
    | _, _ => none
  | .no => none
def mIxC (mc : M Cl) (m : M D) : M Cl := mBind mc fun c => mBind m fun e δ => match ixC δ.s c e with
  | some k => .ok k δ
  | none => .bad
theorem atI_all2 {α β : Type} {R : α → β → Prop} {vs : List α} {ds : List β} {i : Int} {d : β} (t : All2 R vs ds) (h : atI ds i = some d) : ∃ v, atI vs i = some v ∧ R v d := by
  unfold atI at h ⊢
  rw [t.length]
  cases q : ixN ds.length i with
  | none => rw [q] at h; simp at h
  | some j =>
    rw [q] at h
    simp only [Option.bind_some] at h ⊢
    exact t.get h
theorem jc_ix (ha : PE X a (tOfC X.K E mc)) (hb : PE X b (tOf X.K E m)) (hs : PlainIx b) : PE X (.Subscript a b pos) (tOfC X.K E (mIxC mc m)) :=
  pe_imp (pe_ix ix_seq ha hb hs) fun σ H Q ⟨G, g, δ, re, po⟩ => by
    refine tOfC.step re po fun x c g1 H1 δ1 e1 re1 r1 po1 => ?_
    refine tOf.step re1 po1 fun y e g2 H2 δ2 e2 re2 r2 po2 => ?_
    split at po2
    · rename_i k hk
      cases r1 with
      | sh h =>
        obtain ⟨d, h1, h2⟩ := Option.map_eq_some_iff.mp hk
        subst h2
        exact os_ix g2.h H2 x y _ e d Q re2.ex (h.ex e2.h) r2 h1 fun v Hs' H' w rv => Post.grow po2 re2 (Grw.of w) v (.sh rv)
      | lo h =>
        unfold ixC at hk
        dsimp only at hk
        split at hk
        · rename_i xs i hx
          obtain ⟨vs, h1, h2⟩ := re2.lstAt (e2.r _ _ h) hx
          obtain ⟨v, h3, h4⟩ := atI_all2 h2 hk
          cases r2
          exact .inl ⟨_, vs, i, v, rfl, rfl, SqL.of h1, h3, Post.of po2 re2 v h4⟩
        · cases hk
    · exact po2.elim
def mSlC (mc : M Cl) (ml mh : M (Option Int)) : M D := mBind mc fun c => mBind ml fun l => mBind mh fun h δ => match snap δ.s c with
  | some d => match dSl d l h with
    | some e => .ok e δ
    | none => .bad
  | none => .bad
theorem je_sliceC {lo hi : Option Expr} {ml mh : M (Option Int)} {p2 : Pos} (he : PE X e (tOfC X.K E mc)) (hl : PO X lo (tOfP X.K E ml)) (hu : PO X hi (tOfP X.K E mh)) : PE X (.Subscript e (.Slice lo hi none p2) pos) (tOf X.K E (mSlC mc ml mh)) :=
  pe_imp (pe_slice sl_Z he hl hu) fun σ H Q ⟨G, g, δ, re, po⟩ => by
    refine tOfC.step re po fun x c g1 H1 δ1 e1 re1 r1 po1 => ?_
    refine Cf.step re1 po1 fun l g2 H2 δ2 e2 re2 po2 => ?_
    refine Cf.step re2 po2 fun u g3 H3 δ3 e3 re3 po3 => ?_
    split at po3
    · rename_i d hd
      split at po3
      · rename_i e' he'
        have r3 := (r1.le e2).le e3
        cases r3 with
        | sh h =>
          cases hd
          exact slS re3.ex h he' fun v Hs' H' w rv => Post.grow po3 re3 (Grw.of w) v rv
        | lo h =>
          obtain ⟨ys, ds, hxs, h3, rfl⟩ := snap_lo hd
          obtain ⟨vs, h1, h2⟩ := re3.lstAt h hxs
          cases he'
          exact .inr (.inr ⟨_, vs, rfl, SqL.of h1, fun p hp => Post.grow po3 re3 (Grw.new re3.ex hp) _ (.lst (SqL.of upd_same) ((cut_rps (shL_rps h2 h3)).ex (Gr.new re3.ex hp).s))⟩)
      · exact po3.elim
    · exact po3.elim
def mIsi (T : String) (m : M D) : M D := mBind m fun d => mOpt ((kitB (tyD d) T).map PyData.bool)
theorem je_isi {T : Str} {T' : String} {p p' : Pos} (h : PE X e (tOf X.K E m)) (hg : Gl X "isinstance") (hm : X.mg "isinstance" = none) (hgT : Gl X T) (hmT : X.mg T = none) (hvT : bootBuiltins T = some (.type T')) (hnT : T ≠ "__name__" := by decide) (hdT : (T == ("__debug__" : Str)) = false := by decide)
    (he : starEach (e :: [.Name T p']) X.env = (false, eval e X.env) :: starEach [.Name T p'] X.env := by rfl) (he2 : starEach [.Name T p'] X.env = (false, eval (.Name T p') X.env) :: starEach [] X.env := by rfl) (hpl : (backTo pos (starEach [.Name T p'] X.env)).any (·.1) = false := by rfl) :
    PE X (.Call (.Name "isinstance" p) [e, .Name T p'] [] pos) (tOf X.K E (mIsi T' m)) :=
  pe_imp (pe_callB call_isi hg hm (by decide +kernel) (pa_cons h (pa_cons (pe_bltn (v := .ty T') hgT hmT hvT rfl hnT hdT) pa_nil he2) he) (by decide) (by decide) he hpl) fun σ H Q ⟨G, g, δ, re, po⟩ => by
    refine tOf.step re po fun v d g1 H1 δ1 e1 re1 r1 po1 => ?_
    obtain ⟨c, hc, po2⟩ := Post.opt po1
    obtain ⟨b, hb, hc⟩ := Option.map_eq_some_iff.mp hc
    subst hc
    exact ⟨v, .ty T', _, _, b, rfl, .ty T', ty_of re1.ex r1, kit_ty hb, Post.of po2 re1 _ (.bl b)⟩
def mM1 (f : Str → List D → Option D) (mo m : M D) : M D := mBind mo fun d => mBind (mOpt (toS d)) fun z => mBind m fun e => mOpt (f z [e])
def mM1C (f : Str → List D → Option D) (mo : M D) (mc : M Cl) : M D := mBind mo fun d => mBind (mOpt (toS d)) fun z => mBind mc fun c δ => match (snap δ.s c).bind fun e => f z [e] with
  | some d => if flatD d = true then .ok d δ else .bad
  | none => .bad
theorem je_m1 {id : String} {name : Str} {apos pos : Pos} {r : V → List V → Hp → VK → Prop} {f : Str → List D → Option D} (slot : Slot "str" name id) (ty : typeOf (.builtin id) = pure (.type "method_descriptor")) (rule : MtR X id r) (hr : MtS X.K r f) (ho : PE X o (tOf X.K E ma)) (he : PE X e (tOf X.K E m))
    (hs : starEach [e] X.env = [(false, eval e X.env)] := by rfl) (hbase : attributeBase o name X.env (eval o X.env) = eval o X.env := by rfl) (hline : (apos.endLine == pos.line) = true := by rfl) : PE X (.Call (.Attribute o name apos) [e] [] pos) (tOf X.K E (mM1 f ma m)) :=
  pe_imp (pe_m1 slot ty rule ho he hs hbase hline) fun σ H Q ⟨G, g, δ, re, po⟩ => by
    refine tOf.step re po fun v d g1 H1 δ1 e1 re1 r1 po1 => ?_
    obtain ⟨z, hz, po2⟩ := Post.optB po1
    cases r1 <;> simp [toS] at hz
    subst hz
    refine ⟨⟨_, rfl⟩, tOf.step re1 po2 fun w c g2 H2 δ2 e2 re2 r2 po3 => ?_⟩
    obtain ⟨c', hc, po4⟩ := Post.opt po3
    exact hr g2.h H2 _ _ _ c' Q re2.ex (.cons r2 .nil) hc fun v Hs' H' w rv => Post.grow po4 re2 (Grw.of w) v rv
theorem je_m1C {id : String} {name : Str} {apos pos : Pos} {r : V → List V → Hp → VK → Prop} {f : Str → List D → Option D} (slot : Slot "str" name id) (ty : typeOf (.builtin id) = pure (.type "method_descriptor")) (rule : MtR X id r) (hr : MtS X.K r f) (ho : PE X o (tOf X.K E ma)) (he : PE X e (tOfC X.K E mc))
    (hs : starEach [e] X.env = [(false, eval e X.env)] := by rfl) (hbase : attributeBase o name X.env (eval o X.env) = eval o X.env := by rfl) (hline : (apos.endLine == pos.line) = true := by rfl) : PE X (.Call (.Attribute o name apos) [e] [] pos) (tOf X.K E (mM1C f ma mc)) :=
  pe_imp (pe_m1 slot ty rule ho he hs hbase hline) fun σ H Q ⟨G, g, δ, re, po⟩ => by
    refine tOf.step re po fun v d g1 H1 δ1 e1 re1 r1 po1 => ?_
    obtain ⟨z, hz, po2⟩ := Post.optB po1
    cases r1 <;> simp [toS] at hz
    subst hz
    refine ⟨⟨_, rfl⟩, tOfC.step re1 po2 fun w c g2 H2 δ2 e2 re2 r2 po3 => ?_⟩
    split at po3
    · rename_i d' hd
      obtain ⟨d1, h1, h2⟩ := Option.bind_eq_some_iff.mp hd
      split at po3
      · rename_i hf
        exact hr H2 H2 _ _ _ d' Q (Ex.refl _) (.cons (snap_rp re2 r2 h1) .nil) h2 fun v Hs' H' w rv => Post.late po3 re2 w.h v (flat_free rv hf)
      · exact po3.elim
    · exact po3.elim
def mShs (as : List (M Cl)) : M (List D) := mBind (evA as) fun cs => mOpt ((shL cs).filter fun ds => decide (ds.length ≤ sizeLine))
def mTup (as : List (M Cl)) : M D := mBind (mShs as) fun ds => mPure (.tuple ds)
def mLst (as : List (M Cl)) : M D := mBind (mShs as) fun ds => mPure (.list ds)
def mLsO (as : List (M Cl)) : M (List Cl) := mBind (evA as) fun cs => mOpt (if cs.length ≤ sizeLine then some cs else none)
theorem mShs_step {G : Hp} {g : Gh} {H : Hp} {σ : L2.St} {δ : Sx} {β : Type} {f : List D → M β} {QQ : β → Gh → Hp → Sx → Prop} {K : Frag} {R : List V → Hp → Prop} (re : RE K G g H σ δ) (po : Post K E G g σ (mBind (mShs as) f δ) QQ)
    (k : ∀ vs ds g1 H1 δ1, Le g g1 → RE K G g1 H1 σ δ1 → Rps K g1.h vs ds → vs.length ≤ sizeLine → Post K E G g1 σ (f ds δ1) QQ → R vs H1) : tOfA K E (evA as) σ H R := by
  unfold mShs at po
  rw [bind_assoc] at po
  refine tOfA.step re po fun vs cs g1 H1 δ1 e1 re1 r1 po1 => ?_
  obtain ⟨ds, hc, po2⟩ := Post.optB po1
  obtain ⟨h1, h2⟩ := Option.filter_eq_some_iff.mp hc
  have t := shL_rps r1 h1
  exact k vs ds g1 H1 δ1 e1 re1 t (by rw [t.length]; exact of_decide_eq_true h2) po2
theorem je_tup {x1} (h : PA X es (tOfA X.K E (evA as))) : PE X (.Tuple es x1 pos) (tOf X.K E (mTup as)) :=
  pe_imp (pe_tup h) fun σ H Q ⟨G, g, δ, re, po⟩ => mShs_step re po fun vs ds g1 H1 δ1 e1 re1 t hl po1 => ⟨hl, fun p hpn =>
    Post.grow po1 re1 (Grw.new re1.ex hpn) _ (.tup (StT.of upd_same) (t.ex (Gr.new re1.ex hpn).s))⟩
theorem je_lst (h : PA X es (tOfA X.K E (evA as))) : PE X (.List es pos) (tOf X.K E (mLst as)) :=
  pe_imp (pe_lst h) fun σ H Q ⟨G, g, δ, re, po⟩ => mShs_step re po fun vs ds g1 H1 δ1 e1 re1 t hl po1 => ⟨hl, fun p hpn =>
    Post.grow po1 re1 (Grw.new re1.ex hpn) _ (.lst (SqL.of upd_same) (t.ex (Gr.new re1.ex hpn).s))⟩
theorem jo_lst (h : PA X es (tOfA X.K E (evA as))) : PE X (.List es pos) (tOfO X.K E (mLsO as)) :=
  pe_imp (pe_lst h) fun σ H Q ⟨G, g, δ, re, po⟩ => tOfA.step re po fun vs cs g1 H1 δ1 e1 re1 r1 po1 => by
    obtain ⟨ds, hc, po2⟩ := Post.opt po1
    split at hc
    · rename_i hl
      cases hc
      exact ⟨by rw [r1.length]; exact hl, fun p hpn => Post.late po2 re1 (ex_new hpn) p (FrO.new re1 hpn r1)⟩
    · cases hc
/-- a list of data, fresh: what was made as data stays data; here for a + b with lists of the store -/
def mCatO (mc mk : M Cl) : M (List Cl) := mBind mc fun c => mBind mk fun k δ => match snap δ.s c, snap δ.s k with
  | some (.list xs), some (.list ys) => if xs.length + ys.length ≤ sizeLine then .ok ((xs ++ ys).map Cl.sh) δ else .bad
  | _, _ => .bad
theorem jo_cat (ha : PE X a (tOfC X.K E mc)) (hb : PE X b (tOfC X.K E mk)) : PE X (.BinOp a .Add b pos) (tOfO X.K E (mCatO mc mk)) :=
  pe_imp (pe_op op_catR ha hb) fun σ H Q ⟨G, g, δ, re, po⟩ => tOfC.step re po fun x c g1 H1 δ1 e1 re1 r1 po1 => tOfC.step re1 po1 fun y k g2 H2 δ2 e2 re2 r2 po2 => by
    split at po2
    · rename_i xs ys hx hy
      split at po2
      · rename_i hl
        obtain ⟨p, us, e1', q1, t1⟩ := snap_items re2 (r1.le e2) hx rfl
        obtain ⟨q, ws, e2', q2, t2⟩ := snap_items re2 r2 hy rfl
        have f : ∀ {v : V} {c : Cl} {zs : List D} {p : Addr} {ys : List V}, CR X.K g2 v c → snap δ2.s c = some (.list zs) → v = .ref p → Rps X.K g2.h ys zs → (SqL X.K H2 p ys ∨ SqT X.K H2 p ys) → ∃ ys', SqL X.K H2 p ys' ∧ Rps X.K g2.h ys' zs := fun {v c zs p ys} rc hz hv t hs => by
          cases rc with
          | sh h =>
            cases hz
            cases h with
            | lst h1 t1 => cases hv; exact ⟨_, sqL_ex re2.ex h1, t1⟩
          | lo h =>
            obtain ⟨zs', ds, hxs, h3, h4⟩ := snap_lo hz
            obtain ⟨vs, h1, h2⟩ := re2.lstAt h hxs
            cases h4
            cases hv
            exact ⟨vs, SqL.of h1, shL_rps h2 h3⟩
        obtain ⟨us', s1, u1⟩ := f (r1.le e2) hx e1' t1 q1
        obtain ⟨ws', s2, u2⟩ := f r2 hy e2' t2 q2
        exact ⟨p, q, us', ws', e1', e2', s1, s2, by rw [u1.length, u2.length]; exact hl, fun l hln => Post.late po2 re2 (ex_new hln) l (FrO.new re2 hln (rps_cr (u1.append u2)))⟩
      · exact po2.elim
    · exact po2.elim
end
end Ds
namespace Ds
open PySem PySem.Spec PyProof.Rows L2 Dn
inductive Fl where
  | nx
  | rt (c : Cl)
  | bk
  | ct
def FlOk (K : Frag) (B : Ends) (fl : Fl) (σ : L2.St) (g : Gh) (H : Hp) : Prop := match fl with
  | .nx => B.nx σ H
  | .bk => B.bk σ H
  | .ct => B.ct σ H
  | .rt c => ∀ v, CR K g v c → B.rt v H
def PostS (K : Frag) (E : XQ) (G : Hp) (g : Gh) (r : Res Fl) (b : Fl → L2.St → Gh → Hp → Sx → Prop) : Prop := match r with
  | .ok fl δ' => ∀ σ' g' H', Le g g' → RE K G g' H' σ' δ' → b fl σ' g' H' δ'
  | .exc x δ' => ∀ σ' g' H', Le g g' → RE K G g' H' σ' δ' → E x σ' H'
  | .bad => False
abbrev PostF (K : Frag) (E : XQ) (G : Hp) (g : Gh) (r : Res Fl) (B : Ends) : Prop := PostS K E G g r fun fl σ' g' H' _ => FlOk K B fl σ' g' H'
theorem PostS.ex {K : Frag} {E : XQ} {G : Hp} {g g1 : Gh} {r : Res Fl} {b : Fl → L2.St → Gh → Hp → Sx → Prop} (h : PostS K E G g r b) (e : Le g g1) : PostS K E G g1 r b := by
  cases r with
  | ok a δ' => exact fun σ' g' H' e' r => h σ' g' H' (e.trans e') r
  | exc x δ' => exact fun σ' g' H' e' r => h σ' g' H' (e.trans e') r
  | bad => exact h
def tOfS (K : Frag) (E : XQ) (m : M Fl) : TS := fun B σ H => ∃ (G : Hp) (g : Gh) (δ : Sx), RE K G g H σ δ ∧ PostF K E G g (m δ) B
section
variable {K : Frag} {E : XQ} {G : Hp} {g : Gh} {H : Hp} {σ : L2.St} {δ : Sx} {B : Ends}
theorem Cf.stepS {α : Type} {ma : M α} {f : α → M Fl} {R : Hp → α → Gh → Hp → Sx → Prop} (re : RE K G g H σ δ) (po : PostF K E G g (mBind ma f δ) B)
    (k : ∀ a g1 H1 δ1, Le g g1 → RE K G g1 H1 σ δ1 → PostF K E G g1 (f a δ1) B → R G a g1 H1 δ1) : Cf K E ma σ H R := by
  refine ⟨G, g, δ, re, ?_⟩
  unfold mBind at po
  cases h : ma δ with
  | ok a δ1 =>
    rw [h] at po
    exact fun g' H' e r => k a g' H' δ1 e r (PostS.ex po e)
  | exc x δ1 =>
    rw [h] at po
    exact fun g' H' e r => po σ g' H' e r
  | bad =>
    rw [h] at po
    exact po
theorem tOf.stepS {ma : M D} {f : D → M Fl} {R : V → Hp → Prop} (re : RE K G g H σ δ) (po : PostF K E G g (mBind ma f δ) B)
    (k : ∀ v d g1 H1 δ1, Le g g1 → RE K G g1 H1 σ δ1 → Rp K g1.h v d → PostF K E G g1 (f d δ1) B → R v H1) : tOf K E ma σ H R :=
  Cf.stepS re po fun d g1 H1 δ1 e r p v rv => k v d g1 H1 δ1 e r rv p
theorem tOfC.stepS {ma : M Cl} {f : Cl → M Fl} {R : V → Hp → Prop} (re : RE K G g H σ δ) (po : PostF K E G g (mBind ma f δ) B)
    (k : ∀ v c g1 H1 δ1, Le g g1 → RE K G g1 H1 σ δ1 → CR K g1 v c → PostF K E G g1 (f c δ1) B → R v H1) : tOfC K E ma σ H R :=
  Cf.stepS re po fun c g1 H1 δ1 e r p v rv => k v c g1 H1 δ1 e r rv p
theorem tOfL.stepS {ma : M Nat} {f : Nat → M Fl} {R : V → Hp → Prop} (re : RE K G g H σ δ) (po : PostF K E G g (mBind ma f δ) B)
    (k : ∀ a l g1 H1 δ1, Le g g1 → RE K G g1 H1 σ δ1 → g1.r[l]? = some a → PostF K E G g1 (f l δ1) B → R (.ref a) H1) : tOfL K E ma σ H R :=
  Cf.stepS re po fun l g1 H1 δ1 e r p a ha => k a l g1 H1 δ1 e r ha p
theorem PostS.of {fl : Fl} {b : Fl → L2.St → Gh → Hp → Sx → Prop} (po : PostS K E G g (.ok fl δ) b) (re : RE K G g H σ δ) : b fl σ g H δ := po σ g H (Le.refl _) re
end
section
variable {X : Cx} {E : XQ} {a b e o : Expr} {st : Stmt} {rest : List Stmt} {pos : Pos} {m mi : M D} {mc : M Cl} {ml : M Nat} {m1 m2 : M Fl}
def mSeq (m1 m2 : M Fl) : M Fl := fun δ => match m1 δ with
  | .ok .nx δ' => m2 δ'
  | r => r
def mNx : M Fl := mPure .nx
theorem jss_nil : PSs X [] (tOfS X.K E mNx) := pss_imp pss_nil fun B σ H ⟨G, g, δ, re, po⟩ => PostS.of po re
theorem jss_one (h : PS X st (tOfS X.K E m1)) : PSs X [st] (tOfS X.K E m1) := pss_one h
theorem jss_cons (h : PS X st (tOfS X.K E m1)) (t : PSs X rest (tOfS X.K E m2)) : PSs X (st :: rest) (tOfS X.K E (mSeq m1 m2)) :=
  pss_imp (pss_cons h t) fun B σ H ⟨G, g, δ, re, po⟩ => by
    refine ⟨G, g, δ, re, ?_⟩
    unfold mSeq at po
    cases q : m1 δ with
    | ok fl δ1 =>
      rw [q] at po
      cases fl with
      | nx => exact fun σ' g' H' e r => ⟨G, g', δ1, r, PostS.ex po e⟩
      | rt s => exact po
      | bk => exact po
      | ct => exact po
    | exc x δ1 =>
      rw [q] at po
      exact po
    | bad =>
      rw [q] at po
      exact po
def mExpr (m : M Cl) : M Fl := mBind m fun _ => mNx
theorem js_expr (h : PE X e (tOfC X.K E mc)) (hs : swapsWith e none pos.line X.env = pure false := by rfl) : PS X (.Expr e pos) (tOfS X.K E (mExpr mc)) :=
  pst_imp (ps_expr h hs) fun B σ H ⟨G, g, δ, re, po⟩ => tOfC.stepS re po fun v d g1 H1 δ1 e1 re1 r1 po1 => PostS.of po1 re1
def mRet (m : M Cl) : M Fl := mBind m fun c => mPure (.rt c)
theorem js_ret (h : PE X e (tOfC X.K E mc)) : PS X (.Return (some e) pos) (tOfS X.K E (mRet mc)) :=
  pst_imp (ps_ret h) fun B σ H ⟨G, g, δ, re, po⟩ => tOfC.stepS re po fun v d g1 H1 δ1 e1 re1 r1 po1 => PostS.of po1 re1 v r1
def mIfS (t : M Bool) (m1 m2 : M Fl) : M Fl := mBind t fun b => if b then m1 else m2
theorem js_if {c : Expr} {sa sb : List Stmt} {t : M Bool} (hc : PT X c (tOfT X.K E t)) (h1 : PSs X sa (tOfS X.K E m1)) (h2 : PSs X sb (tOfS X.K E m2)) : PS X (.If c sa sb pos) (tOfS X.K E (mIfS t m1 m2)) :=
  pst_imp (ps_if hc h1 h2) fun B σ H ⟨G, g, δ, re, po⟩ => Cf.stepS re po fun b g1 H1 δ1 e1 re1 po1 => by
    cases b with
    | true => exact ⟨G, g1, δ1, re1, po1⟩
    | false => exact ⟨G, g1, δ1, re1, po1⟩
/-- x = e -/
def mSet (i : Nat) (m : M Cl) : M Fl := mBind m fun c => fun δ => .ok .nx ⟨δ.e.set i c, δ.s⟩
theorem js_set {i : Nat} {x : Str} {pos' : Pos} (hN : X.N.Nodup) (hi : X.N[i]? = some x) (hx : Loc X.env.scope x) (h : PE X e (tOfC X.K E mc)) (hs : swapsWith e (some (.Name x pos')) pos.line X.env = pure false := by rfl) (hf : X.fn x = true ∨ X.env.scope.names.lookup x = some .local := by first | exact .inl rfl | exact .inr rfl | assumption) :
    PS X (.Assign [.Name x pos'] e pos) (tOfS X.K E (mSet i mc)) :=
  pst_imp (ps_set hN hi hx h hs hf) fun B σ H ⟨G, g, δ, re, po⟩ => tOfC.stepS re po fun v d g1 H1 δ1 e1 re1 r1 po1 => PostS.of po1 (re1.set r1)
/-- y[i] = e, y a list of the store -/
def mSetIx (ml : M Nat) (mi : M D) (mc : M Cl) : M Fl := mBind mc fun c => mBind ml fun l => mBind mi fun e δ => match δ.s[l]?, e with
  | some (.lst xs), .int n => match ixN xs.length n with
    | some j => .ok .nx ⟨δ.e, δ.s.set l (.lst (xs.set j c))⟩
    | none => .bad
  | _, _ => .bad
theorem js_setIx {p' : Pos} {i v : Expr} (ho : PE X o (tOfL X.K E ml)) (hi : PE X i (tOf X.K E mi)) (he : PE X v (tOfC X.K E mc))
    (ha : ∀ v, assign (.Subscript o i p') X.env v = (do
      let ov ← holding [v] (eval o X.env)
      let iv ← holding [v, ov] (eval i X.env)
      standAt p'
      holding [v, ov, iv] (setItem ov iv v)
      release [v, ov, iv] []) := by intro _; rfl)
    (hs : swapsWithSole [.Subscript o i p'] v pos.line X.env = pure false := by rfl) (hw : swappedStores [.Subscript o i p'] v X.env = pure none := by rfl)
    (h1 : (assignEach [.Subscript o i p'] X.env).map (·.2) = [assign (.Subscript o i p') X.env] := by rfl) : PS X (.Assign [.Subscript o i p'] v pos) (tOfS X.K E (mSetIx ml mi mc)) :=
  pst_imp (ps_asg he (pg_sub ho hi set_list ha) hs hw h1) fun B σ H ⟨G, g, δ, re, po⟩ => by
    refine tOfC.stepS re po fun w c g1 H1 δ1 e1 re1 r1 po1 => ?_
    refine tOfL.stepS re1 po1 fun q l g2 H2 δ2 e2 re2 r2 po2 => ?_
    refine tOf.stepS re2 po2 fun u d g3 H3 δ3 e3 re3 r3 po3 => ?_
    split at po3
    · rename_i xs n hx
      split at po3
      · rename_i j hj
        cases r3
        have ha' := e3.r _ _ r2
        obtain ⟨vs, h1, h2⟩ := re3.lstAt ha' hx
        refine ⟨q, vs, _, j, rfl, rfl, h1, by rw [h2.length]; exact hj, ?_⟩
        exact PostS.of po3 (re3.write hx rfl ha' (.lst (h2.set ((r1.le e2).le e3) j)))
      · exact po3.elim
    · exact po3.elim
theorem RE.ty {K : Frag} {G : Hp} {g : Gh} {H : Hp} {σ : L2.St} {δ : Sx} (re : RE K G g H σ δ) {l : Nat} {q : Addr} {xs : List Cl} (h : g.r[l]? = some q) (hx : δ.s[l]? = some (.lst xs)) : tyV K "list" (.ref q) H := by
  obtain ⟨vs, h1, h2⟩ := re.lstAt h hx
  exact .inl ⟨rfl, vs, .inl (.inl h1)⟩
/-- y.append(e) -/
def isLst (l : Nat) : M Nat := fun δ => match δ.s[l]? with
  | some (.lst _) => .ok l δ
  | _ => .bad
theorem isLst_ok (l : Nat) (δ : Sx) : isLst l δ = .bad ∨ ∃ xs, δ.s[l]? = some (.lst xs) ∧ isLst l δ = .ok l δ := by
  unfold isLst
  split
  · rename_i xs h
    exact .inr ⟨xs, h, rfl⟩
  · exact .inl rfl
def mIsL (ml : M Nat) : M Nat := mBind ml isLst
def mApp (ml : M Nat) (mc : M Cl) : M Fl := mBind (mIsL ml) fun l => mBind mc fun c δ => match δ.s[l]? with
  | some (.lst xs) => if xs.length < sizeLine then .ok .nx ⟨δ.e, δ.s.set l (.lst (xs ++ [c]))⟩ else .bad
  | _ => .bad
theorem isLS {K : Frag} {G : Hp} {g : Gh} {H : Hp} {σ : L2.St} {δ : Sx} {B : Ends} {f : Nat → M Fl} {R : V → Hp → Prop} (re : RE K G g H σ δ) (po : PostF K E G g (mBind (mIsL ml) f δ) B)
    (k : ∀ a l g1 H1 δ1, Le g g1 → RE K G g1 H1 σ δ1 → g1.r[l]? = some a → tyV K "list" (.ref a) H1 → PostF K E G g1 (f l δ1) B → R (.ref a) H1) : tOfL K E ml σ H R := by
  unfold mIsL at po
  rw [bind_assoc] at po
  refine tOfL.stepS re po fun a l g1 H1 δ1 e1 re1 r1 po1 => ?_
  have z : ∃ xs, δ1.s[l]? = some (.lst xs) ∧ PostF K E G g1 (f l δ1) B := by
    unfold mBind at po1
    rcases isLst_ok l δ1 with h | ⟨xs, hx, h⟩
    · rw [h] at po1; exact po1.elim
    · rw [h] at po1; exact ⟨xs, hx, po1⟩
  obtain ⟨xs, hx, po2⟩ := z
  exact k a l g1 H1 δ1 e1 re1 r1 (re1.ty r1 hx) po2
theorem js_app {apos cpos : Pos} {v : Expr} (ho : PE X o (tOfL X.K E ml)) (he : PE X v (tOfC X.K E mc))
    {PE0 : PE X (.Call (.Attribute o "append" apos) [v] [] cpos) (tBM X.K "list" rAppend (tOfL X.K E ml) (tCons (tOfC X.K E mc) tNil))}
    (hs : swapsWith (.Call (.Attribute o "append" apos) [v] [] cpos) none pos.line X.env = pure false := by rfl) : PS X (.Expr (.Call (.Attribute o "append" apos) [v] [] cpos) pos) (tOfS X.K E (mApp ml mc)) :=
  pst_imp (ps_expr PE0 hs) fun B σ H ⟨G, g, δ, re, po⟩ => by
    show tBM _ _ _ _ _ _ _ _
    unfold tBM
    refine isLS re po fun q l g1 H1 δ1 e1 re1 r1 ht po1 => ⟨ht, ?_⟩
    refine tOfC.stepS re1 po1 fun w c g2 H2 δ2 e2 re2 r2 po2 => ?_
    split at po2
    · rename_i xs hx
      split at po2
      · rename_i hl
        have ha' := e2.r _ _ r1
        obtain ⟨vs, h1, h2⟩ := re2.lstAt ha' hx
        refine ⟨q, vs, w, rfl, rfl, h1, by rw [h2.length]; exact hl, ?_⟩
        exact PostS.of po2 (re2.write hx rfl ha' (.lst (h2.snoc r2)))
      · exact po2.elim
    · exact po2.elim
/-- y.pop(i) -/
def mPopAt (ml : M Nat) (mi : M D) : M Cl := mBind (mIsL ml) fun l => mBind mi fun e δ => match δ.s[l]?, e with
  | some (.lst xs), .int n => if 0 ≤ n ∧ n < xs.length ∧ xs.length ≤ sizeLine then match xs[n.toNat]? with
    | some c => .ok c ⟨δ.e, δ.s.set l (.lst (xs.eraseIdx n.toNat))⟩
    | none => .bad
    else .bad
  | _, _ => .bad
theorem isL {K : Frag} {G : Hp} {g : Gh} {H : Hp} {σ : L2.St} {δ : Sx} {β : Type} {QQ : β → Gh → Hp → Sx → Prop} {f : Nat → M β} {R : V → Hp → Prop} (re : RE K G g H σ δ) (po : Post K E G g σ (mBind (mIsL ml) f δ) QQ)
    (k : ∀ a l g1 H1 δ1, Le g g1 → RE K G g1 H1 σ δ1 → g1.r[l]? = some a → tyV K "list" (.ref a) H1 → Post K E G g1 σ (f l δ1) QQ → R (.ref a) H1) : tOfL K E ml σ H R := by
  unfold mIsL at po
  rw [bind_assoc] at po
  refine tOfL.step re po fun a l g1 H1 δ1 e1 re1 r1 po1 => ?_
  have z : ∃ xs, δ1.s[l]? = some (.lst xs) ∧ Post K E G g1 σ (f l δ1) QQ := by
    unfold mBind at po1
    rcases isLst_ok l δ1 with h | ⟨xs, hx, h⟩
    · rw [h] at po1; exact po1.elim
    · rw [h] at po1; exact ⟨xs, hx, po1⟩
  obtain ⟨xs, hx, po2⟩ := z
  exact k a l g1 H1 δ1 e1 re1 r1 (re1.ty r1 hx) po2
theorem jc_popAt {apos cpos : Pos} {v : Expr} (ho : PE X o (tOfL X.K E ml)) (he : PE X v (tOf X.K E mi))
    {PE0 : PE X (.Call (.Attribute o "pop" apos) [v] [] cpos) (tBM X.K "list" rPopAt (tOfL X.K E ml) (tCons (tOf X.K E mi) tNil))} : PE X (.Call (.Attribute o "pop" apos) [v] [] cpos) (tOfC X.K E (mPopAt ml mi)) :=
  pe_imp PE0 fun σ H Q ⟨G, g, δ, re, po⟩ => by
    show tBM _ _ _ _ _ _ _ _
    unfold tBM
    refine isL re po fun q l g1 H1 δ1 e1 re1 r1 ht po1 => ⟨ht, ?_⟩
    refine tOf.step re1 po1 fun w d g2 H2 δ2 e2 re2 r2 po2 => ?_
    split at po2
    · rename_i xs n hx
      split at po2
      · rename_i hn
        split at po2
        · rename_i c hc
          cases r2
          have ha' := e2.r _ _ r1
          obtain ⟨vs, h1, h2⟩ := re2.lstAt ha' hx
          obtain ⟨v', h3, h4⟩ := h2.get hc
          obtain ⟨n0, n1, n2⟩ := hn
          have h2l := h2.length
          have hz : sizeLine = 16777216 := rfl
          refine ⟨q, vs, n, n.toNat, v', rfl, rfl, h1, by omega, by omega, ?_, h3, ?_⟩
          · unfold seqIndex?
            have hj : (if n < 0 then n + (vs.length : Int) else n) = n := if_neg (by omega)
            have n1' : n < (vs.length : Int) := by omega
            simp [hj, n0, n1']
          · exact (po2 g2 _ (Le.refl _) (re2.write hx rfl ha' (.lst (h2.erase n.toNat)))) v' h4
        · exact po2.elim
      · exact po2.elim
    · exact po2.elim
end
end Ds
namespace Ds
open PySem PySem.Spec PyProof.Rows L2 Dn
abbrev MG (α : Type) := α → List Cl → Option (List Cl)
def gOf (K : Frag) (gv : List Nat) (mg : MG Cl) : TG := fun v σ H Q => ∃ (G : Hp) (g : Gh) (δ : Sx) (c : Cl), RE K G g H σ δ ∧ CR K g v c ∧
  ∃ e', mg c δ.e = some e' ∧ ∀ σ', RE K G g H σ' ⟨e', δ.s⟩ → Off gv σ σ' → Q σ' H
def gOfs (K : Frag) (gv : List Nat) (mg : MG (List Cl)) : TGs := fun vs σ H Q => ∃ (G : Hp) (g : Gh) (δ : Sx) (cs : List Cl), RE K G g H σ δ ∧ All2 (CR K g) vs cs ∧
  ∃ e', mg cs δ.e = some e' ∧ ∀ σ', RE K G g H σ' ⟨e', δ.s⟩ → Off gv σ σ' → Q σ' H
section
variable {X : Cx} {E : XQ} {pos : Pos} {e : Expr} {mc : M Cl}
def mgName (i : Nat) : MG Cl := fun c e => some (e.set i c)
theorem jg_name {i : Nat} {x : Str} (hN : X.N.Nodup) (hi : X.N[i]? = some x) (hx : Loc X.env.scope x) (hf : X.fn x = true ∨ X.env.scope.names.lookup x = some .local := by first | exact .inl rfl | exact .inr rfl | assumption) : PG X (.Name x pos) (gOf X.K [i] (mgName i)) :=
  pg_imp (pg_name hN hi hx hf) fun v σ H Q ⟨G, g, δ, c, re, r, e', h, po⟩ => by
    cases h
    exact po _ (re.set r) ⟨by simp, fun j hj => by rw [List.getElem?_set_ne (fun z => hj (by simp [z]))]⟩
def mgNil : MG (List Cl)
  | [], e => some e
  | _ :: _, _ => none
def mgCons (g : MG Cl) (gs : MG (List Cl)) : MG (List Cl)
  | c :: cs, e => (g c e).bind (gs cs)
  | [], _ => none
theorem jgs_nil : PGs X [] (gOfs X.K [] mgNil) := pgs_imp pgs_nil fun vs σ H Q ⟨G, g, δ, cs, re, r, e', h, po⟩ => by
  cases r with
  | nil =>
    cases h
    exact ⟨rfl, po σ re Off.refl⟩
  | cons _ _ => cases h
theorem jgs_cons {t : Expr} {ts : List Expr} {gv gw : List Nat} {mg : MG Cl} {mgs : MG (List Cl)} (h1 : PG X t (gOf X.K gv mg)) (h2 : PGs X ts (gOfs X.K gw mgs)) (hs : (assignEach (t :: ts) X.env).map (·.2) = assign t X.env :: (assignEach ts X.env).map (·.2) := by rfl) : PGs X (t :: ts) (gOfs X.K (gv ++ gw) (mgCons mg mgs)) :=
  pgs_imp (pgs_cons h1 h2 hs) fun vs σ H Q ⟨G, g, δ, cs, re, r, e', h, po⟩ => by
    cases r with
    | nil => cases h
    | cons r1 rs =>
      obtain ⟨e1, h1, h2⟩ := Option.bind_eq_some_iff.mp h
      exact ⟨_, _, rfl, G, g, δ, _, re, r1, e1, h1, fun σ' re' of => ⟨G, g, _, _, re', rs, e', h2, fun σ2 re2 of2 => po σ2 re2 (of.trans of2)⟩⟩
def mgLen (n : Nat) (gs : MG (List Cl)) : MG (List D) := fun ds e => if ds.length = n then gs (ds.map Cl.sh) e else none
def mgTup (n : Nat) (gs : MG (List Cl)) : MG Cl
  | .sh (.tuple ds), e => mgLen n gs ds e
  | _, _ => none
def mgLst (n : Nat) (gs : MG (List Cl)) : MG Cl
  | .sh (.list ds), e => mgLen n gs ds e
  | _, _ => none
theorem mgLen_some {n : Nat} {gs : MG (List Cl)} {ds : List D} {e e' : List Cl} (h : mgLen n gs ds e = some e') : ds.length = n ∧ gs (ds.map Cl.sh) e = some e' := by
  unfold mgLen at h
  by_cases hl : ds.length = n
  · rw [if_pos hl] at h; exact ⟨hl, h⟩
  · rw [if_neg hl] at h; cases h
theorem jg_tup {ts : List Expr} {k n : Nat} {gv : List Nat} {mgs : MG (List Cl)} (hc : X.calm = true) (h : PGs X ts (gOfs X.K gv mgs)) (hn : (assignEach ts X.env).length = n := by rfl) (hst : (assignEach ts X.env).findIdx? (·.1) = none := by rfl) : PG X (.Tuple ts k pos) (gOf X.K gv (mgTup n mgs)) :=
  pg_imp (pg_tup (n := n) hc h hn hst) fun v σ H Q ⟨G, g, δ, c, re, r, e', h, po⟩ => by
    cases r with
    | lo _ => cases h
    | sh r =>
      cases r with
      | tup h1 t =>
        obtain ⟨hl, h2⟩ := mgLen_some h
        exact ⟨_, _, rfl, sqT_ex re.ex h1, by rw [t.length]; exact hl, G, g, δ, _, re, rps_cr t, e', h2, po⟩
      | _ => cases h
theorem jg_lst {ts : List Expr} {k n : Nat} {gv : List Nat} {mgs : MG (List Cl)} (hc : X.calm = true) (h : PGs X ts (gOfs X.K gv mgs)) (hn : (assignEach ts X.env).length = n := by rfl) (hst : (assignEach ts X.env).findIdx? (·.1) = none := by rfl) : PG X (.Tuple ts k pos) (gOf X.K gv (mgLst n mgs)) :=
  pg_imp (pg_unl (n := n) hc h hn hst) fun v σ H Q ⟨G, g, δ, c, re, r, e', h, po⟩ => by
    cases r with
    | lo _ => cases h
    | sh r =>
      cases r with
      | lst h1 t =>
        obtain ⟨hl, h2⟩ := mgLen_some h
        exact ⟨_, _, rfl, sqL_ex re.ex h1, by rw [t.length]; exact hl, G, g, δ, _, re, rps_cr t, e', h2, po⟩
      | _ => cases h
/-- targets = e -/
def mAsg (mg : MG Cl) (m : M Cl) : M Fl := mBind m fun c δ => match mg c δ.e with
  | some e' => .ok .nx ⟨e', δ.s⟩
  | none => .bad
theorem js_asg {tg : Expr} {gv : List Nat} {mg : MG Cl} (h : PE X e (tOfC X.K E mc)) (hg : PG X tg (gOf X.K gv mg)) (hs : swapsWithSole [tg] e pos.line X.env = pure false := by rfl) (hw : swappedStores [tg] e X.env = pure none := by rfl)
    (h1 : (assignEach [tg] X.env).map (·.2) = [assign tg X.env] := by rfl) : PS X (.Assign [tg] e pos) (tOfS X.K E (mAsg mg mc)) :=
  pst_imp (ps_asg h hg hs hw h1) fun B σ H ⟨G, g, δ, re, po⟩ => tOfC.stepS re po fun v c g1 H1 δ1 e1 re1 r1 po1 => by
    split at po1
    · rename_i e' he
      exact ⟨G, g1, δ1, c, re1, r1, e', he, fun σ' re' _ => po1 σ' g1 H1 (Le.refl _) re'⟩
    · exact po1.elim
end
def ItOk (K : Frag) (Hs : Hp) (J : It) (ds : List D) : Prop := ∀ Hs1 H1, Ex Hs Hs1 → Ex Hs1 H1 → ∀ i : Nat,
  (∀ d, ds[i]? = some d → J.go i H1 ∧ ∀ x H2, J.yld i H1 x H2 → ∃ Hs2, Gs Hs1 H1 Hs2 H2 ∧ Rp K Hs2 x d) ∧ (ds[i]? = none → J.stop i H1)
theorem ItOk.of {K : Frag} {Hs : Hp} {J : It} {ds : List D} (h : Dn.ItOk K Hs J ds) : ItOk K Hs J ds := fun Hs1 H1 e1 e2 i => ⟨fun d hd => ⟨((h Hs1 H1 e1 e2 i).1 d hd).1, fun x H2 y => by
  obtain ⟨Hs2, g, r⟩ := ((h Hs1 H1 e1 e2 i).1 d hd).2 x H2 y
  exact ⟨Hs2, .of g, r⟩⟩, (h Hs1 H1 e1 e2 i).2⟩
def tOfI (K : Frag) (E : XQ) (m : M (List D)) : TI := fun σ H R => Cf K E m σ H fun _ ds g' H' _ => ∀ J, ItOk K g'.h J ds → R J H'
section
variable {X : Cx} {E : XQ} {tg e : Expr} {pos : Pos} {m : M D}
def mIter (m : M D) : M (List D) := mBind m fun d => mOpt (dItems d)
theorem ji_any (h : PE X e (tOf X.K E m)) : PI X tg e (tOfI X.K E (mIter m)) :=
  pi_imp (pi_anyR h) fun σ H R ⟨G, g, δ, re, po⟩ => tOf.step re po fun v d g1 H1 δ1 e1 re1 r1 po1 => by
    obtain ⟨ds, hd, po2⟩ := Post.opt po1
    cases r1 with
    | lst h t =>
      obtain rfl := Option.some.inj hd
      exact .inl ⟨_, rfl, ⟨_, sqL_ex re1.ex h⟩, Post.of po2 re1 _ (.of (it_list h t))⟩
    | tup h t =>
      obtain rfl := Option.some.inj hd
      exact .inr (.inl ⟨_, rfl, ⟨_, sqT_ex re1.ex h⟩, Post.of po2 re1 _ (.of (it_tup h t))⟩)
    | str z =>
      obtain rfl := Option.some.inj hd
      exact .inr (.inr ⟨z, rfl, Post.of po2 re1 _ (.of it_str)⟩)
    | _ => simp [dItems] at hd
def mRng1 (m : M D) : M (List D) := mBind m fun d => mOpt (bRng1 d)
def mRng2 (ma mb : M D) : M (List D) := mBind ma fun d => mBind mb fun e => mOpt (bRng2 d e)
theorem ji_range1 {a : Expr} {p : Pos} {ma : M D} (hg : Gl X "range") (hm : X.mg "range" = none) (ha : PE X a (tOf X.K E ma)) (hs : starEach [a] X.env = [(false, eval a X.env)] := by rfl) : PI X tg (.Call (.Name "range" p) [a] [] pos) (tOfI X.K E (mRng1 ma)) :=
  pi_imp (pi_range1 hg hm (pa_cons ha pa_nil hs) hs) fun σ H R ⟨G, g, δ, re, po⟩ => tOf.step re po fun v d g1 H1 δ1 e1 re1 r1 po1 => by
    obtain ⟨ds, hd, po2⟩ := Post.opt po1
    cases r1 with
    | int j =>
      simp only [bRng1, Option.ite_none_right_eq_some, Option.some.injEq] at hd
      obtain ⟨hl, hd⟩ := hd
      subst hd
      have hl' := of_decide_eq_true hl
      exact ⟨j, rfl, hl'.1, hl'.2, Post.of po2 re1 _ (.of it_rng)⟩
    | _ => simp [bRng1] at hd
def forL (mg : MG Cl) (mb : M Fl) : List D → M Fl
  | [] => mNx
  | d :: ds => fun δ => match mg (.sh d) δ.e with
    | some e' => match mb ⟨e', δ.s⟩ with
      | .ok .nx δ2 => forL mg mb ds δ2
      | .ok .ct δ2 => forL mg mb ds δ2
      | .ok .bk δ2 => .ok .nx δ2
      | .ok (.rt s) δ2 => .ok (.rt s) δ2
      | .exc x δ2 => .exc x δ2
      | .bad => .bad
    | none => .bad
def mFor (mi : M (List D)) (mg : MG Cl) (mb : M Fl) : M Fl := mBind mi (forL mg mb)
theorem js_for {iter : Expr} {body : List Stmt} {mi : M (List D)} {gv : List Nat} {mg : MG Cl} {mb : M Fl} (hpa : PassesOwn (model X.prog X.w) X.A X.env X.xe) (hc : X.calm = true) (hi : PI X tg iter (tOfI X.K E mi)) (hg : PG X tg (gOf X.K gv mg)) (hb : PSs X body (tOfS X.K E mb))
    (hs : ∀ x, foldedSetIterable iter X.env x = pure x := by intro _; rfl) : PS X (.For tg iter body [] pos) (tOfS X.K E (mFor mi mg mb)) :=
  pst_imp (ps_for hpa hc hi hg hb hs) fun B σ H ⟨G, g, δ, re, po⟩ => Cf.stepS re po fun ds g1 H1 δ1 e1 re1 po1 J hJ => by
    refine ⟨fun i m σ' H' => m = ds.length - i ∧ i ≤ ds.length ∧ ∃ g2 δ2, Le g1 g2 ∧ RE X.K G g2 H' σ' δ2 ∧ PostF X.K E G g2 (forL mg mb (ds.drop i) δ2) B, ⟨ds.length, rfl, Nat.zero_le _, g1, δ1, Le.refl _, re1, po1⟩, ?_⟩
    rintro i m σ' H' ⟨hm, hi, g2, δ2, e2, re2, po2⟩
    obtain ⟨j1, j2⟩ := hJ g2.h H' e2.h re2.ex i
    by_cases hlt : i < ds.length
    · have hd : ds[i]? = some ds[i] := List.getElem?_eq_getElem hlt
      obtain ⟨k1, k2⟩ := j1 _ hd
      refine .inr ⟨k1, fun σ3 H3 => ∃ g3 δ3, Le g1 g3 ∧ RE X.K G g3 H3 σ3 δ3 ∧ PostF X.K E G g3 (forL mg mb (ds.drop (i + 1)) δ3) B, fun σ3 H3 ⟨g3, δ3, e3, re3, po3⟩ => ⟨ds.length - (i + 1), by omega, rfl, hlt, g3, δ3, e3, re3, po3⟩, fun x H3 y => ?_⟩
      obtain ⟨Hs3, gr, rx⟩ := k2 x H3 y
      have w := Grw.ofS gr
      have re3 := re2.grow w
      have po3 := PostS.ex po2 w.le
      rw [List.drop_eq_getElem_cons hlt] at po3
      unfold forL at po3
      cases q : mg (.sh ds[i]) δ2.e with
      | some e' =>
        rw [q] at po3
        refine ⟨G, _, δ2, _, re3, .sh rx, e', q, fun σ4 re4 _ => ⟨G, _, _, re4, ?_⟩⟩
        dsimp only at po3
        have ea := e2.trans w.le
        cases z : mb ⟨e', δ2.s⟩ with
        | ok fl δ5 =>
          rw [z] at po3
          cases fl with
          | nx => exact fun σ5 g5 H5 e5 re5 => ⟨g5, δ5, ea.trans e5, re5, PostS.ex po3 e5⟩
          | ct => exact fun σ5 g5 H5 e5 re5 => ⟨g5, δ5, ea.trans e5, re5, PostS.ex po3 e5⟩
          | bk => exact fun σ5 g5 H5 e5 re5 => po3 σ5 g5 H5 e5 re5
          | rt s => exact fun σ5 g5 H5 e5 re5 => po3 σ5 g5 H5 e5 re5
        | exc x δ5 =>
          rw [z] at po3
          exact fun σ5 g5 H5 e5 re5 => po3 σ5 g5 H5 e5 re5
        | bad => rw [z] at po3; exact po3
      | none => rw [q] at po3; exact po3.elim
    · have e : i = ds.length := by omega
      subst e
      rw [List.drop_length] at po2
      exact .inl ⟨j2 (List.getElem?_eq_none_iff.mpr (Nat.le_refl _)), PostS.of po2 re2⟩
end
def wipeE (e : List Cl) : List Nat → List Cl
  | [] => e
  | v :: vs => (wipeE e vs).set v .no
def backE (e1 e2 : List Cl) : List Nat → List Cl
  | [] => e2
  | v :: vs => (backE e1 e2 vs).set v (e1.getD v .no)
theorem wipeE_length (δ : List Cl) : ∀ vs, (wipeE δ vs).length = δ.length
  | [] => rfl
  | v :: vs => by unfold wipeE; rw [List.length_set, wipeE_length δ vs]
theorem backE_length (δ1 δ2 : List Cl) : ∀ vs, (backE δ1 δ2 vs).length = δ2.length
  | [] => rfl
  | v :: vs => by unfold backE; rw [List.length_set, backE_length δ1 δ2 vs]
theorem wipeE_in {δ : List Cl} {i : Nat} {s : Cl} : ∀ {vs : List Nat}, i ∈ vs → (wipeE δ vs)[i]? = some s → s = .no
  | v :: vs, h, q => by
    unfold wipeE at q
    rcases setGet q with ⟨_, z⟩ | ⟨hj, z⟩
    · exact z
    · rcases List.mem_cons.mp h with e | h
      · exact absurd e hj
      · exact wipeE_in h z
theorem wipeE_out {δ : List Cl} {i : Nat} : ∀ {vs : List Nat}, i ∉ vs → (wipeE δ vs)[i]? = δ[i]?
  | [], _ => rfl
  | v :: vs, h => by
    unfold wipeE
    have hne : v ≠ i := fun z => h (by simp [z])
    rw [List.getElem?_set_ne hne]
    exact wipeE_out fun z => h (List.mem_cons_of_mem _ z)
theorem backE_in {δ1 δ2 : List Cl} {i : Nat} {s : Cl} : ∀ {vs : List Nat}, i ∈ vs → (backE δ1 δ2 vs)[i]? = some s → s = δ1.getD i .no
  | v :: vs, h, q => by
    unfold backE at q
    rcases setGet q with ⟨hv, z⟩ | ⟨hj, z⟩
    · rw [hv]; exact z
    · rcases List.mem_cons.mp h with e | h
      · exact absurd e hj
      · exact backE_in h z
theorem backE_out {δ1 δ2 : List Cl} {i : Nat} : ∀ {vs : List Nat}, i ∉ vs → (backE δ1 δ2 vs)[i]? = δ2[i]?
  | [], _ => rfl
  | v :: vs, h => by
    unfold backE
    have hne : v ≠ i := fun z => h (by simp [z])
    rw [List.getElem?_set_ne hne]
    exact backE_out fun z => h (List.mem_cons_of_mem _ z)
section
variable {K : Frag} {G : Hp} {g g' : Gh} {H H' : Hp} {σ : L2.St} {δ δ' : Sx} {vs : List Nat}
theorem RE.wipe (re : RE K G g H σ δ) : RE K G g H (L2.wipe σ vs) ⟨wipeE δ.e vs, δ.s⟩ := by
  have r1 : RE K G g H σ ⟨wipeE δ.e vs, δ.s⟩ := re.less (wipeE_length δ.e vs) (fun i s q => by
    by_cases hi : i ∈ vs
    · exact .inl (wipeE_in hi q)
    · rw [wipeE_out hi] at q; exact .inr q)
  refine r1.sig (L2.wipe_length σ vs) fun i s q hn => ?_
  by_cases hi : i ∈ vs
  · exact absurd (wipeE_in hi q) hn
  · exact L2.wipe_out hi
/-- behind a block: its own names are as they were ahead of it -/
theorem RE.back (re : RE K G g H σ δ) (re2 : RE K G g' H' (L2.wipe σ vs) δ') (e : Le g g') : RE K G g' H' σ ⟨backE δ.e δ'.e vs, δ'.s⟩ :=
  re2.slots (by rw [backE_length, ← re2.len, L2.wipe_length]) fun i c q hc => by
    by_cases hi : i ∈ vs
    · have z := backE_in hi q
      have hg : δ.e[i]? = some c := by
        rw [List.getD_eq_getElem?_getD] at z
        cases w : δ.e[i]? with
        | none => rw [w] at z; exact absurd z hc
        | some s => rw [w] at z; exact congrArg some z.symm
      obtain ⟨v, h1, h2⟩ := re.sl i c hg hc
      exact ⟨v, h1, h2.le e⟩
    · rw [backE_out hi] at q
      obtain ⟨v, h1, h2⟩ := re2.sl i c q hc
      rw [L2.wipe_out hi] at h1
      exact ⟨v, h1, h2⟩
/-- a list in the making is lent out to nobody -/
theorem RE.hide {C : Addr} {xs : List Cl} {acc : List V} (re : RE K G g H σ δ) (f : FrO K G g H C xs) (ha : H C = some (.lst acc)) : RE K (upd G C (.lst acc)) g H σ δ where
  ex := re.ex
  fg := fun a o q => by
    by_cases e : a = C
    · subst e
      rw [upd_same] at q
      cases q
      exact ⟨ha, f.hs, f.nr⟩
    · rw [upd_ne e] at q
      exact re.fg a o q
  len := re.len
  rl := re.rl
  sl := re.sl
  ob := re.ob
  nd := re.nd
  al := re.al
  nt := fun a ys q => by
    have e : a ≠ C := fun z => by subst z; rw [ha] at q; cases q
    rw [upd_ne e]
    exact re.nt a ys q
  gx := fun a fs q => by
    by_cases e : a = C
    · subst e; rw [upd_same] at q; cases q
    · rw [upd_ne e] at q; exact re.gx a fs q
  fz := re.fz
theorem RE.shown {C : Addr} {o u : HO} (re : RE K (upd G C o) g H σ δ) (hg : G C = none) : RE K G g (upd H C u) σ δ where
  ex := fun a o' q => by
    have h := (re.fg C o upd_same).2.1
    have e : a ≠ C := fun z => by rw [z, h] at q; cases q
    rw [upd_ne e]
    exact re.ex a o' q
  fg := fun a o' q => by
    have e : a ≠ C := fun z => by rw [z, hg] at q; cases q
    rw [upd_ne e]
    exact re.fg a o' (by rw [upd_ne e]; exact q)
  len := re.len
  rl := re.rl
  sl := re.sl
  ob := fun l o' q w => by
    obtain ⟨a, u', h1, h2, h3, h4⟩ := re.ob l o' q w
    have e : a ≠ C := fun z => (re.fg C o upd_same).2.2 (z ▸ List.mem_of_getElem? h1)
    exact ⟨a, u', h1, by rw [upd_ne e]; exact h2, h3, h4⟩
  nd := re.nd
  al := fun a ha => by
    by_cases e : a = C
    · subst e; rw [upd_same]; simp
    · rw [upd_ne e]; exact re.al a ha
  nt := fun a ys q => by
    by_cases e : a = C
    · subst e; exact ⟨(re.fg a o upd_same).2.2, hg⟩
    · rw [upd_ne e] at q
      have := re.nt a ys q
      rw [upd_ne e] at this
      exact this
  gx := fun a fs q => by
    by_cases e : a = C
    · subst e; rw [hg] at q; cases q
    · exact re.gx a fs (by rw [upd_ne e]; exact q)
  fz := re.fz
end
def mWipe (vs : List Nat) : M Unit := fun δ => .ok () ⟨wipeE δ.e vs, δ.s⟩
def compL (vs : List Nat) (mg : MG Cl) (mt : M Bool) (me : M D) : List D → M (List D)
  | [] => mPure []
  | d :: ds => fun δ => match mg (.sh d) δ.e with
    | some e' => mBind mt (fun b => if b then mBind me (fun y => mBind (mWipe vs) fun _ => mBind (compL vs mg mt me ds) fun ys => mPure (y :: ys)) else mBind (mWipe vs) fun _ => compL vs mg mt me ds) ⟨e', δ.s⟩
    | none => .bad
def compE (vs : List Nat) (mg : MG Cl) (mt : M Bool) (me : M D) (ds : List D) : M (List Cl) := fun δ =>
  if ds.length ≤ sizeLine then
    match compL vs mg mt me ds ⟨wipeE δ.e vs, δ.s⟩ with
    | .ok ys δ2 => .ok (ys.map Cl.sh) ⟨backE δ.e δ2.e vs, δ2.s⟩
    | _ => .bad
  else .bad
def mComp (mi : M (List D)) (vs : List Nat) (mg : MG Cl) (mt : M Bool) (me : M D) : M (List Cl) := mBind mi (compE vs mg mt me)
def mYes : M Bool := mPure true
end Ds
namespace Ds
open PySem PySem.Spec PyProof.Rows L2 Dn
section
variable {X : Cx} {E : XQ} {tg e elt iter : Expr} {ifs : List Expr} {pos : Pos} {vs gv : List Nat} {mi : M (List D)} {mg : MG Cl} {mt : M Bool} {me : M D}
/-- what a comprehension's block makes, read off its parts -/
theorem lc_read (hgv : ∀ i ∈ gv, i ∈ vs) {σ : L2.St} {H : Hp} {Q : VK} (h : tOfO X.K E (mComp mi vs mg mt me) σ H Q) :
    tLc (tOfI X.K E mi) (gOf X.K gv mg) (tOfT X.K noX mt) (tOf X.K noX me) vs σ H Q := by
  obtain ⟨G, g, δ, re, po⟩ := h
  refine Cf.step re po fun ds g1 H1 δ1 e1 re1 po1 J hJ C hC => ?_
  unfold compE at po1
  split at po1
  · rename_i hlen
    cases hcl : compL vs mg mt me ds ⟨wipeE δ1.e vs, δ1.s⟩ with
    | ok ys δf =>
      rw [hcl] at po1
      have en : Ex H1 (upd H1 C (.lst [])) := ex_new hC
      have gC : G C = none := by
        cases q : G C with
        | none => rfl
        | some u => have := (re1.fg C u q).1; rw [hC] at this; cases this
      have re2 := (re1.newH en).wipe (vs := vs)
      have f0 : FrO X.K G g1 (upd H1 C (.lst [])) C [] := FrO.new re1 hC .nil
      refine ⟨fun i m H' => m = ds.length - i ∧ i ≤ ds.length ∧ ∃ g2 δ2 done ys2, Le g1 g2 ∧ RE X.K G g2 H' (L2.wipe σ vs) δ2 ∧ FrO X.K G g2 H' C (done.map Cl.sh) ∧ done.length ≤ i ∧ compL vs mg mt me (ds.drop i) δ2 = .ok ys2 δf ∧ done ++ ys2 = ys,
        ⟨ds.length, rfl, Nat.zero_le _, g1, _, [], ys, Le.refl _, re2, f0, Nat.le_refl _, hcl, rfl⟩, ?_⟩
      rintro i m H' ⟨hm, hi, g2, δ2, done, ys2, e2, re3, f3, hdl, hc3, hys⟩
      obtain ⟨j1, j2⟩ := hJ g2.h H' e2.h re3.ex i
      by_cases hlt : i < ds.length
      · have hd : ds[i]? = some ds[i] := List.getElem?_eq_getElem hlt
        obtain ⟨k1, k2⟩ := j1 _ hd
        refine .inr ⟨k1, fun H3 => ∃ g3 δ3 done ys2, Le g1 g3 ∧ RE X.K G g3 H3 (L2.wipe σ vs) δ3 ∧ FrO X.K G g3 H3 C (done.map Cl.sh) ∧ done.length ≤ i + 1 ∧ compL vs mg mt me (ds.drop (i + 1)) δ3 = .ok ys2 δf ∧ done ++ ys2 = ys,
          fun H3 hN => ⟨ds.length - (i + 1), by omega, rfl, hlt, hN⟩, fun x H3 y => ?_⟩
        obtain ⟨Hs3, gr, rx⟩ := k2 x H3 y
        have w := Grw.ofS gr
        obtain ⟨acc, ha, hr⟩ := f3.at_
        have re4 := re3.grow w
        have z3 : Hs3 C = none := by
          rcases gr.f C (by rw [ha]; simp) with z | ⟨ys, z⟩
          · rw [z]; exact f3.hs
          · rw [ha] at z; cases z
        have f4 : FrO X.K G ⟨g2.r, Hs3⟩ H3 C (done.map Cl.sh) := ⟨⟨acc, gr.h C _ ha, CRs.le w.le hr⟩, z3, f3.gg, f3.nr⟩
        have re5 := re4.hide f4 (gr.h C _ ha)
        rw [List.drop_eq_getElem_cons hlt] at hc3
        unfold compL at hc3
        cases q : mg (.sh ds[i]) δ2.e with
        | some e' =>
          rw [q] at hc3
          refine ⟨upd G C (.lst acc), ⟨g2.r, Hs3⟩, δ2, _, re5, .sh rx, e', q, fun σ4 re6 of4 => ⟨wipe_off of4 hgv, ?_⟩⟩
          dsimp only at hc3
          -- a turn's end: the names wiped, the list as it is then
          have turn : ∀ {g5 : Gh} {H5 : Hp} {δ5 : Sx} {u : HO}, RE X.K (upd G C (.lst acc)) g5 H5 σ4 δ5 → RE X.K G g5 (upd H5 C u) (L2.wipe σ vs) ⟨wipeE δ5.e vs, δ5.s⟩ ∧ g5.h C = none ∧ H5 C = some (.lst acc) ∧ C ∉ g5.r := fun {g5 H5 δ5 u} re7 => by
            have rw7 := re7.wipe (vs := vs)
            rw [wipe_off of4 hgv] at rw7
            have hf := re7.fg C (.lst acc) upd_same
            exact ⟨rw7.shown gC, hf.2.1, hf.1, hf.2.2⟩
          have ew := e2.trans w.le
          refine ⟨_, _, ⟨e', δ2.s⟩, re6, ?_⟩
          cases zt : mt ⟨e', δ2.s⟩ with
          | ok b δ5 =>
            rw [show mBind mt _ ⟨e', δ2.s⟩ = _ from by unfold mBind; rw [zt]] at hc3
            dsimp only at hc3
            refine fun g5 H5 e5 re7 => ?_
            cases b with
            | true =>
              rw [if_pos rfl] at hc3 ⊢
              refine ⟨_, g5, δ5, re7, ?_⟩
              cases ze : me δ5 with
              | ok yv δ6 =>
                rw [ze] at hc3
                refine fun g6 H6 e6 re8 v rv => ?_
                obtain ⟨t1, t3, t4, t5⟩ := turn (u := .lst (acc ++ [v])) re8
                have hal : acc.length = done.length := by rw [hr.length, List.length_map]
                refine ⟨acc, t4, by omega, ?_⟩
                have hc4 : mBind (compL vs mg mt me (ds.drop (i + 1))) (fun ys => mPure (yv :: ys)) ⟨wipeE δ6.e vs, δ6.s⟩ = .ok ys2 δf := hc3
                cases zr : compL vs mg mt me (ds.drop (i + 1)) ⟨wipeE δ6.e vs, δ6.s⟩ with
                | ok ys3 δ7 =>
                  unfold mBind at hc4
                  rw [zr] at hc4
                  have hc5 : Res.ok (yv :: ys3) δ7 = Res.ok ys2 δf := hc4
                  injection hc5 with k1 k2
                  subst k1; subst k2
                  have e16 : Le g1 g6 := (ew.trans e5).trans e6
                  refine ⟨g6, _, done ++ [yv], ys3, e16, t1, ⟨⟨acc ++ [v], upd_same, ?_⟩, t3, gC, t5⟩, by simp; exact hdl, zr, by rw [← hys]; simp⟩
                  rw [List.map_append]
                  exact (CRs.le ((w.le.trans e5).trans e6) hr).snoc (.sh rv)
                | exc x δ7 => unfold mBind at hc4; rw [zr] at hc4; cases hc4
                | bad => unfold mBind at hc4; rw [zr] at hc4; cases hc4
              | exc x δ6 => rw [ze] at hc3; cases hc3
              | bad => rw [ze] at hc3; cases hc3
            | false =>
              rw [if_neg Bool.false_ne_true] at hc3 ⊢
              obtain ⟨t1, t3, t4, t5⟩ := turn (u := .lst acc) re7
              have hu : upd H5 C (.lst acc) = H5 := by
                funext b
                by_cases hb : b = C
                · subst hb; rw [upd_same, t4]
                · rw [upd_ne hb]
              rw [hu] at t1
              have hc4 : compL vs mg mt me (ds.drop (i + 1)) ⟨wipeE δ5.e vs, δ5.s⟩ = .ok ys2 δf := hc3
              exact ⟨g5, _, done, ys2, ew.trans e5, t1, ⟨⟨acc, t4, CRs.le (w.le.trans e5) hr⟩, t3, gC, t5⟩, by omega, hc4, hys⟩
          | exc x δ5 => rw [show mBind mt _ ⟨e', δ2.s⟩ = _ from by unfold mBind; rw [zt]] at hc3; cases hc3
          | bad => rw [show mBind mt _ ⟨e', δ2.s⟩ = _ from by unfold mBind; rw [zt]] at hc3; cases hc3
        | none => rw [q] at hc3; cases hc3
      · have ei : i = ds.length := by omega
        subst ei
        rw [List.drop_length] at hc3
        have hc4 : Res.ok ([] : List D) δ2 = Res.ok ys2 δf := hc3
        injection hc4 with k1 k2
        subst k1; subst k2
        rw [List.append_nil] at hys
        subst hys
        refine .inl ⟨j2 (List.getElem?_eq_none_iff.mpr (Nat.le_refl _)), ?_⟩
        exact po1 g2 H' e2 (re1.back re3 e2) C f3
    | exc x δf => rw [hcl] at po1; exact po1.elim
    | bad => rw [hcl] at po1; exact po1.elim
  · exact po1.elim
theorem jts_nil : PTs X [] (tOfT X.K E mYes) := ⟨fun pins s σ H Q I ⟨G, g, δ, re, po⟩ => pts_nil.run pins s σ H Q I (Post.of po re)⟩
theorem jts_one {c : Expr} (h : PT X c (tOfT X.K E mt)) : PTs X [c] (tOfT X.K E mt) := pts_one h
theorem jo_comp {scope : Scope} {own : List (Str × Nat)} (hgv : ∀ i ∈ gv, i ∈ own.map (·.2)) (hc : X.calm = true) (hN : X.N.Nodup) (hi : PI X tg iter (tOfI X.K E mi)) (ok : BlkOk X.N X.env.scope scope own)
    (hg : ∀ (s : Shared) (H : Hp) (C : Addr) (cl : List (Str × Addr)) (fp : List Addr), PG (X.blk s H scope (compEnvC scope cl C X.env) fp) tg (gOf X.K gv mg)) (ht : ∀ (s : Shared) (H : Hp) (C : Addr) (cl : List (Str × Addr)) (fp : List Addr), PTs (X.blk s H scope (compEnvC scope cl C X.env) fp) ifs (tOfT X.K noX mt))
    (he : ∀ (s : Shared) (H : Hp) (C : Addr) (cl : List (Str × Addr)) (fp : List Addr), PE (X.blk s H scope (compEnvC scope cl C X.env) fp) elt (tOf X.K noX me)) (hs : ∀ x, foldedSetIterable iter X.env x = pure x := by intro _; rfl) :
    PE X (.ListComp elt [⟨tg, iter, ifs, 0⟩] scope pos) (tOfO X.K E (mComp mi (own.map (·.2)) mg mt me)) :=
  pe_imp (pe_lc hc hN hi ok hg ht he hs) fun σ H Q h => lc_read hgv h
/-- y = [..] on one line -/
theorem js_lc {i : Nat} {y : Str} {py : Pos} {scope : Scope} {own : List (Str × Nat)} {spos : Pos} {mc : M (List Cl) → M Cl} (hgv : ∀ i ∈ gv, i ∈ own.map (·.2)) (hc : X.calm = true) (hN : X.N.Nodup) (hy : X.N[i]? = some y) (hyl : X.env.scope.names.lookup y = some .local)
    (hmc : ∀ (m : M (List Cl)) (σ : L2.St) (H : Hp) (Q : VK), tOfC X.K E (mc m) σ H Q → tOfO X.K E m σ H Q)
    (hsw : swapsWith (.ListComp elt [⟨tg, iter, ifs, 0⟩] scope pos) (some (.Name y py)) spos.line X.env = pure true) (hi : PI X tg iter (tOfI X.K E mi)) (ok : BlkOk X.N X.env.scope scope own)
    (hg : ∀ (s : Shared) (H : Hp) (C : Addr) (cl : List (Str × Addr)) (fp : List Addr), PG (X.blk s H scope (compEnvC scope cl C X.env) fp) tg (gOf X.K gv mg)) (ht : ∀ (s : Shared) (H : Hp) (C : Addr) (cl : List (Str × Addr)) (fp : List Addr), PTs (X.blk s H scope (compEnvC scope cl C X.env) fp) ifs (tOfT X.K noX mt))
    (he : ∀ (s : Shared) (H : Hp) (C : Addr) (cl : List (Str × Addr)) (fp : List Addr), PE (X.blk s H scope (compEnvC scope cl C X.env) fp) elt (tOf X.K noX me)) (hs : ∀ x, foldedSetIterable iter X.env x = pure x := by intro _; rfl) :
    PS X (.Assign [.Name y py] (.ListComp elt [⟨tg, iter, ifs, 0⟩] scope pos) spos) (tOfS X.K E (mSet i (mc (mComp mi (own.map (·.2)) mg mt me)))) :=
  pst_imp (ps_setLc hc hN hy hyl hsw hi ok hg ht he hs) fun B σ H ⟨G, g, δ, re, po⟩ => lc_read hgv (hmc _ _ _ _ (tOfC.stepS re po fun v c g1 H1 δ1 e1 re1 r1 po1 => PostS.of po1 (re1.set r1)))
/-- .. as data, as one of the store's -/
theorem frO {m : M (List Cl)} {σ : L2.St} {H : Hp} {Q : VK} (h : tOf X.K E (mFr m) σ H Q) : tOfO X.K E m σ H Q := by
  obtain ⟨G, g, δ, re, po⟩ := h
  refine tOfO.step re po fun a xs g1 H1 δ1 e1 re1 f1 po1 => ?_
  obtain ⟨d, hd, po2⟩ := Post.opt po1
  obtain ⟨ds, h1, h2⟩ := Option.map_eq_some_iff.mp hd
  subst h2
  obtain ⟨g2, k1, _, k2, k3⟩ := re1.freeze f1 h1
  exact po2 g2 H1 k1 k2 _ k3
theorem shO {m : M D} {σ : L2.St} {H : Hp} {Q : VK} (h : tOfC X.K E (mSh m) σ H Q) : tOf X.K E m σ H Q := by
  obtain ⟨G, g, δ, re, po⟩ := h
  exact tOf.step re po fun v d g1 H1 δ1 e1 re1 r1 po1 => Post.of po1 re1 v (.sh r1)
theorem loO {m : M Nat} {σ : L2.St} {H : Hp} {Q : VK} (h : tOfC X.K E (mLo m) σ H Q) : tOfL X.K E m σ H Q := by
  obtain ⟨G, g, δ, re, po⟩ := h
  exact tOfL.step re po fun a l g1 H1 δ1 e1 re1 r1 po1 => Post.of po1 re1 _ (.lo r1)
theorem newO {m : M (List Cl)} {σ : L2.St} {H : Hp} {Q : VK} (h : tOfL X.K E (mNew m) σ H Q) : tOfO X.K E m σ H Q := by
  obtain ⟨G, g, δ, re, po⟩ := h
  refine tOfO.step re po fun a xs g1 H1 δ1 e1 re1 f1 po1 => ?_
  obtain ⟨g2, k1, k2⟩ := allS re1 f1.fro po1
  exact k1 a k2
theorem mc_fr (m : M (List Cl)) (σ : L2.St) (H : Hp) (Q : VK) (h : tOfC X.K E (mSh (mFr m)) σ H Q) : tOfO X.K E m σ H Q := frO (shO h)
theorem mc_new (m : M (List Cl)) (σ : L2.St) (H : Hp) (Q : VK) (h : tOfC X.K E (mLo (mNew m)) σ H Q) : tOfO X.K E m σ H Q := newO (loO h)
end
inductive RF where
  | ok (c : Cl) (s : List Ob)
  | exc (y : Exn) (s : List Ob)
  | bad
abbrev Fn := List Cl → List Ob → RF
def Cl.below (n : Nat) : Cl → Bool
  | .lo l => decide (l < n)
  | _ => true
def Ob.below (n : Nat) : Ob → Bool
  | .gone => true
  | .lst xs => xs.all (Cl.below n)
  | .dk kvs => kvs.all fun p => p.2.below n
  | .dt kvs => kvs.all fun p => p.2.below n
  | .ft kvs => kvs.all fun p => p.2.below n
  | .fk kvs => kvs.all fun p => p.2.below n
  | .ins _ fs => fs.all fun p => p.2.below n
/-- what a def has made for itself is forgotten behind it, where nothing reaches it -/
def trim (n : Nat) (c : Cl) (s : List Ob) : List Ob := if (c.below n && (s.take n).all (Ob.below n)) = true then s.take n else s
def fnF (n N : Nat) (mb : M Fl) : Fn := fun as s => if as.length = n then match mb ⟨as ++ List.replicate (N - n) .no, s⟩ with
  | .ok (.rt c) δ' => .ok c (trim s.length c δ'.s)
  | .ok .nx δ' => .ok (.sh .none) (trim s.length (.sh .none) δ'.s)
  | .exc x δ' => .exc x δ'.s
  | _ => .bad
  else .bad
def spF (K : Frag) (n : Nat) (F : Fn) : Sp := fun vs H Q E => vs.length = n ∧ ∃ (G : Hp) (g : Gh) (as : List Cl) (s : List Ob), RE K G g H [] ⟨[], s⟩ ∧ All2 (CR K g) vs as ∧
  match F as s with
  | .ok c s' => ∀ g' H', Le g g' → RE K G g' H' [] ⟨[], s'⟩ → ∀ v, CR K g' v c → Q v H'
  | .exc x s' => False
  | .bad => False
section
variable {K : Frag} {G : Hp} {g g' : Gh} {H H' : Hp} {σ : L2.St} {δ δ' : Sx}
theorem CR.cut {n : Nat} {v : V} {c : Cl} (h : CR K g v c) (hb : c.below n = true) : CR K ⟨g.r.take n, g.h⟩ v c := by
  cases h with
  | sh h => exact .sh h
  | lo h =>
    refine .lo ?_
    have : _ < n := of_decide_eq_true hb
    show (g.r.take n)[_]? = _
    rw [List.getElem?_take_of_lt this]
    exact h
theorem ObR.cut {n : Nat} {o : Ob} {u : HO} (h : ObR K g o u) (hb : o.below n = true) : ObR K ⟨g.r.take n, g.h⟩ o u := by
  have f : ∀ {κ : Type} {vs : List (κ × V)} {xs : List (κ × Cl)}, All2 (fun p q => p.1 = q.1 ∧ CR K g p.2 q.2) vs xs → (xs.all fun p => p.2.below n) = true → All2 (fun p q => p.1 = q.1 ∧ CR K ⟨g.r.take n, g.h⟩ p.2 q.2) vs xs := fun {κ vs xs} t hb =>
    t.imp_mem fun a b m r => ⟨r.1, r.2.cut (List.all_eq_true.mp hb b m)⟩
  cases h with
  | lst t => exact .lst (t.imp_mem fun a b m r => r.cut (List.all_eq_true.mp hb b m))
  | dk t => exact .dk (f t hb)
  | dt t => exact .dt (f t hb)
  | ins c t => exact .ins c (f t hb)
theorem RE.trim {c : Cl} {v : V} {n : Nat} (r : RE K G g H [] ⟨[], δ.s⟩) (hn : n ≤ δ.s.length) (hc : CR K g v c) : ∃ g', g'.h = g.h ∧ (∀ l a, l < n → g.r[l]? = some a → g'.r[l]? = some a) ∧ RE K G g' H [] ⟨[], Ds.trim n c δ.s⟩ ∧ CR K g' v c := by
  unfold Ds.trim
  split
  · rename_i hb
    rw [Bool.and_eq_true] at hb
    obtain ⟨h1, h2⟩ := hb
    refine ⟨⟨g.r.take n, g.h⟩, rfl, fun l a hl h => ?_, ?_, hc.cut h1⟩
    · show (g.r.take n)[l]? = some a
      rw [List.getElem?_take_of_lt hl]
      exact h
    · exact {
        ex := r.ex
        fg := fun a o q => by
          obtain ⟨a1, a2, a3⟩ := r.fg a o q
          exact ⟨a1, a2, fun z => a3 (List.mem_of_mem_take z)⟩
        len := rfl
        rl := by
          have : g.r.length = δ.s.length := r.rl
          simp [this]
        sl := fun i c q => by simp at q
        ob := fun l o q hl => by
          have q : (δ.s.take n)[l]? = some o := q
          have hln : l < n := by
            have := (List.getElem?_eq_some_iff.mp q).1
            simp at this
            omega
          rw [List.getElem?_take_of_lt hln] at q
          obtain ⟨a, u, b1, b2, b3, b4⟩ := r.ob l o q hl
          refine ⟨a, u, ?_, b2, b3.cut ?_, b4⟩
          · show (g.r.take n)[l]? = some a
            rw [List.getElem?_take_of_lt hln]
            exact b1
          · refine List.all_eq_true.mp h2 o ?_
            refine List.mem_of_getElem? (i := l) ?_
            rw [List.getElem?_take_of_lt hln]
            exact q
        nd := (List.take_sublist n g.r).nodup r.nd
        al := fun a ha => r.al a (List.mem_of_mem_take ha)
        nt := fun a ys q => ⟨fun z => (r.nt a ys q).1 (List.mem_of_mem_take z), (r.nt a ys q).2⟩
        gx := r.gx
        fz := fun l o1 q hz => by
          have q : (δ.s.take n)[l]? = some o1 := q
          have hln : l < n := by
            have := (List.getElem?_eq_some_iff.mp q).1
            simp at this
            omega
          have hm : Ob.below n o1 = true := List.all_eq_true.mp h2 _ (List.mem_of_getElem? q)
          rw [List.getElem?_take_of_lt hln] at q
          obtain ⟨a, o, vs, b1, b2, b3⟩ := r.fz l o1 q hz
          refine ⟨a, o, vs, ?_, b2, match o1, b3, hm with
            | _, .ft b3, hm => .ft (b3.imp_mem fun a b m z => ⟨z.1, z.2.cut (List.all_eq_true.mp hm b m)⟩)
            | _, .fk b3, hm => .fk (b3.imp_mem fun a b m z => ⟨z.1, z.2.cut (List.all_eq_true.mp hm b m)⟩)⟩
          show (g.r.take n)[l]? = some a
          rw [List.getElem?_take_of_lt hln]
          exact b1 }
  · exact ⟨g, rfl, fun l a _ h => h, r, hc⟩
theorem RE.start {vs : List V} {as : List Cl} {s : List Ob} (r : RE K G g H [] ⟨[], s⟩) (t : All2 (CR K g) vs as) (k : Nat) : RE K G g H (vs.map some ++ List.replicate k none) ⟨as ++ List.replicate k .no, s⟩ :=
  r.slots (by simp [t.length]) fun i c q hc => by
    by_cases hi : i < as.length
    · rw [List.getElem?_append_left hi] at q
      obtain ⟨v, h1, h2⟩ := t.get q
      have hiv : i < (vs.map some).length := by rw [List.length_map, t.length]; exact hi
      exact ⟨v, by rw [List.getElem?_append_left hiv, List.getElem?_map, h1]; rfl, h2⟩
    · rw [List.getElem?_append_right (by omega), List.getElem?_replicate] at q
      split at q
      · cases q; exact absurd rfl hc
      · cases q
end
theorem trim_le {n : Nat} {c : Cl} {s : List Ob} (h : n ≤ s.length) : n ≤ (trim n c s).length := by
  unfold trim
  split
  · rw [List.length_take]; omega
  · exact h
section
variable {P : Program} {w : World} {K : Frag} {mg : Str → Option Value} {base : Heap}
/-- a def keeps its promise: by its body as a run upon data -/
theorem fn_J {x qual : Str} {st : Stmt} {f : Addr} {fd : FuncData} {N pr : List Str} {k n nN : Nat} {mb : M Fl} (F : Fun K x qual st f fd) (S : FnScope N pr (defScope st)) (hn : pr.length = n) (hN : N.length = nN) (hle : n ≤ nN)
    (hbody : ∀ (cdv : Value) (A : Around) (outer : List PySem.Env) (s : Shared) (H : Hp) (E : XK), Room k (A.deeper (envOfC qual (defScope st) s.heap.objs.size f cdv)) →
      PSs (cxOf CX0 P w K mg base N qual (defScope st) f cdv A outer s H E).nox (defBody st) (tOfS K noX mb)) : FnOk P w K mg base CX0 (k + 1) f fd pr (spF K n (fnF n nN mb)) := by
  refine F.ok S (fun vs H Q E h => by rw [h.1, hn]) fun cdv A outer s H vs Q E hr h => ⟨_, hbody cdv A outer s H E hr, ?_⟩
  obtain ⟨hl, G, g, as, st0, re, t, po⟩ := h
  have hst : L2.start N vs = vs.map some ++ List.replicate (nN - n) none := by unfold L2.start; rw [hN, hl]
  refine ⟨G, g, ⟨as ++ List.replicate (nN - n) .no, st0⟩, by rw [hst]; exact re.start t _, ?_⟩
  have hal : as.length = n := by rw [← t.length, hl]
  unfold fnF at po
  rw [if_pos hal] at po
  have grl : g.r.length = st0.length := re.rl
  have fin : ∀ {c : Cl} {δ' : Sx} {σ' : L2.St} {g' : Gh} {H' : Hp} {v : V}, (∀ g' H', Le g g' → RE K G g' H' [] ⟨[], trim st0.length c δ'.s⟩ → ∀ v, CR K g' v c → Q v H') → Le g g' → RE K G g' H' σ' δ' → CR K g' v c → Q v H' := fun {c δ' σ' g' H' v} k e r hc => by
    have hn' : st0.length ≤ δ'.s.length := by
      rw [← r.rl, ← grl]
      by_cases h0 : g.r.length = 0
      · omega
      · have := (List.getElem?_eq_some_iff.mp (e.r (g.r.length - 1) _ (List.getElem?_eq_getElem (by omega)))).1
        omega
    obtain ⟨g2, a1, a2, a3, a4⟩ := RE.trim (δ := δ') (n := st0.length) r.bare hn' hc
    refine k g2 H' ⟨fun l a h => a2 l a ?_ (e.r l a h), by rw [a1]; exact e.h⟩ a3 v a4
    have := (List.getElem?_eq_some_iff.mp h).1
    omega
  cases q : mb ⟨as ++ List.replicate (nN - n) .no, st0⟩ with
  | ok fl δ' =>
    rw [q] at po
    cases fl with
    | nx => exact fun σ' g' H' e r => fin po e r (.sh .non)
    | rt c => exact fun σ' g' H' e r v rv => fin po e r rv
    | bk => exact po.elim
    | ct => exact po.elim
  | exc x δ' => rw [q] at po; exact po.elim
  | bad => rw [q] at po; exact po.elim
end
def mCall (F : Fn) (as : List (M Cl)) : M Cl := mBind (evA as) fun cs δ => match F cs δ.s with
  | .ok c s' => .ok c ⟨δ.e, s'⟩
  | .exc x s' => .bad
  | .bad => .bad
section
variable {X : Cx} {E : XQ} {E0 : XK} {F : Fn} {as : List (M Cl)} {k n : Nat} {f : Addr} {fd : FuncData} {pr : List Str} {x : Str} {e : Expr} {es : List Expr} {p pos : Pos}
theorem call_read (hn : as.length = n) {σ : L2.St} {H : Hp} {Q : VK} (h : tOfC X.K E (mCall F as) σ H Q) : tCall (spF X.K n F) [] E0 (tOfA X.K E (evA as)) σ H Q := by
  obtain ⟨G, g, δ, re, po⟩ := h
  have hlen : ∀ (as : List (M Cl)) (δ : Sx) (cs : List Cl) (δ' : Sx), evA as δ = .ok cs δ' → cs.length = as.length := fun as => by
    induction as with
    | nil => intro δ cs δ' h; cases h; rfl
    | cons m as ih =>
      intro δ cs δ' h
      unfold evA mBind at h
      cases q : m δ with
      | ok c δ1 =>
        rw [q] at h
        dsimp only at h
        cases q2 : evA as δ1 with
        | ok cs2 δ2 =>
          rw [q2] at h
          have h : Res.ok (c :: cs2) δ2 = Res.ok cs δ' := h
          injection h with h1 h2
          subst h1
          rw [List.length_cons, List.length_cons, ih _ _ _ q2]
        | exc y δ2 => rw [q2] at h; cases h
        | bad => rw [q2] at h; cases h
      | exc y δ1 => rw [q] at h; cases h
      | bad => rw [q] at h; cases h
  unfold mCall at po
  have po' := po
  unfold mBind at po'
  cases qa : evA as δ with
  | ok cs0 δ0 =>
    have hl := hlen _ _ _ _ qa
    rw [qa] at po'
    refine ⟨G, g, δ, re, ?_⟩
    rw [qa]
    intro g1 H1 e1 re1 vs r1
    have po1 := Post.ex po' e1
    rw [List.append_nil]
    dsimp only at po1
    refine ⟨by rw [r1.length, hl, hn], G, g1, cs0, δ0.s, re1.bare, r1, ?_⟩
    cases q : F cs0 δ0.s with
    | ok c s' =>
      rw [q] at po1
      exact fun g' H' e r v rv => po1 g' H' e (re1.lift e r) v rv
    | exc y s' => rw [q] at po1; exact po1.elim
    | bad => rw [q] at po1; exact po1.elim
  | exc y δ0 =>
    rw [qa] at po'
    refine ⟨G, g, δ, re, ?_⟩
    rw [qa]
    exact po'
  | bad => rw [qa] at po'; exact po'.elim
theorem jc_call (G : FnOk X.prog X.w X.K X.mg X.base CX0 k f fd pr (spF X.K n F)) (hn : as.length = n) (hr : Room k X.A) (hg : Gl X x) (hm : X.mg x = some (.ref f)) (hk : PySem.W.keepIn X.K (.ref f) = true) (hb : Binds X.K fd pr []) (ha : PA X (e :: es) (tOfA X.K E (evA as)))
    (hdb : (x == ("__debug__" : Str)) = false := by decide) (he : starEach (e :: es) X.env = (false, eval e X.env) :: starEach es X.env := by rfl) (hpl : (backTo pos (starEach es X.env)).any (·.1) = false := by rfl) : PE X (.Call (.Name x p) (e :: es) [] pos) (tOfC X.K E (mCall F as)) :=
  pe_imp (pe_call G hr hg hm hk hb .nil pass0 ha hdb he hpl) fun _ _ _ h => call_read hn h
theorem nil_read {K : Frag} {σ : L2.St} {H : Hp} {R : List V → Hp → Prop} (h : tOfA K E (evA []) σ H R) : R [] H := by
  obtain ⟨G, g, δ, re, po⟩ := h
  exact Post.of po re [] .nil
/-- a def that calls itself: none of its turns is left -/
theorem fn_bad {P : Program} {w : World} {K : Frag} {mg : Str → Option Value} {base : Heap} {k n : Nat} {f : Addr} {fd : FuncData} {pr : List Str} (hn : pr.length = n) : FnOk P w K mg base CX0 k f fd pr (spF K n fun _ _ => .bad) :=
  ⟨fun vs H Q E h => by rw [h.1, hn], fun A outer s H args us vs Q E _ _ _ _ h => by
    obtain ⟨_, _, _, _, _, _, _, h⟩ := h
    exact h.elim⟩
end
end Ds
namespace Ds
open PySem PySem.Spec PyProof.Rows L2 Dn
section
variable {κ : Type} [DecidableEq κ]
def valC (kvs : List (κ × Cl)) (k : κ) : Option Cl := (kvs.find? fun kv => decide (kv.1 = k)).map (·.2)
def putC (kvs : List (κ × Cl)) (k : κ) (c : Cl) : List (κ × Cl) := if (kvs.any fun kv => decide (kv.1 = k)) = true then kvs.map (fun kv => if kv.1 = k then (kv.1, c) else kv) else kvs ++ [(k, c)]
def dropC (kvs : List (κ × Cl)) (k : κ) : List (κ × Cl) := kvs.filter fun kv => decide (kv.1 ≠ k)
def mergeC (kvs more : List (κ × Cl)) : List (κ × Cl) := more.foldl (fun acc kv => putC acc kv.1 kv.2) kvs
abbrev KR (K : Frag) (g : Gh) : List (κ × V) → List (κ × Cl) → Prop := All2 fun p q => p.1 = q.1 ∧ CR K g p.2 q.2
variable {K : Frag} {g : Gh}
theorem KR.val {vs : List (κ × V)} {cs : List (κ × Cl)} (r : KR K g vs cs) (k : κ) : (valC cs k = none ∧ valV vs k = none) ∨ ∃ v c, valC cs k = some c ∧ valV vs k = some v ∧ CR K g v c := by
  induction r with
  | nil => exact .inl ⟨rfl, rfl⟩
  | @cons p q ps qs h t ih =>
    by_cases e : q.1 = k
    · refine .inr ⟨p.2, q.2, ?_, ?_, h.2⟩
      · simp [valC, List.find?_cons, e]
      · exact valV_pos (h.1.trans e)
    · have e1 : valC (q :: qs) k = valC qs k := by simp [valC, List.find?_cons, e]
      have e2 : valV (p :: ps) k = valV ps k := valV_neg (by rw [h.1]; exact e)
      rw [e1, e2]
      exact ih
theorem KR.some {vs : List (κ × V)} {cs : List (κ × Cl)} (r : KR K g vs cs) {k : κ} {c : Cl} (h : valC cs k = some c) : ∃ v, valV vs k = some v ∧ CR K g v c := by
  rcases r.val k with ⟨a, _⟩ | ⟨v, c', a, b, d⟩
  · rw [a] at h; cases h
  · rw [a] at h; cases h; exact ⟨v, b, d⟩
theorem KR.isSome {vs : List (κ × V)} {cs : List (κ × Cl)} (r : KR K g vs cs) (k : κ) : (valV vs k).isSome = (valC cs k).isSome := by
  rcases r.val k with ⟨a, b⟩ | ⟨v, c', a, b, d⟩ <;> rw [a, b] <;> rfl
theorem KR.any {vs : List (κ × V)} {cs : List (κ × Cl)} (r : KR K g vs cs) (k : κ) : (vs.any fun kv => decide (kv.1 = k)) = cs.any fun kv => decide (kv.1 = k) := by
  induction r with
  | nil => rfl
  | @cons p q ps qs h t ih => rw [List.any_cons, List.any_cons, ih, h.1]
theorem KR.put {vs : List (κ × V)} {cs : List (κ × Cl)} (r : KR K g vs cs) (k : κ) {v : V} {c : Cl} (h : CR K g v c) : KR K g (putK vs k v) (putC cs k c) := by
  unfold putK putC
  rw [r.any k]
  have z : KR K g (vs.map fun kv => if kv.1 = k then (kv.1, v) else kv) (cs.map fun kv => if kv.1 = k then (kv.1, c) else kv) := by
    induction r with
    | nil => exact .nil
    | @cons p q ps qs h' t ih =>
      rw [List.map_cons, List.map_cons]
      refine .cons ?_ ih
      by_cases e : q.1 = k
      · rw [if_pos e, if_pos (h'.1.trans e)]; exact ⟨h'.1, h⟩
      · rw [if_neg e, if_neg (by rw [h'.1]; exact e)]; exact h'
  split
  · exact z
  · exact All2.snoc r ⟨rfl, h⟩
theorem KR.drop {vs : List (κ × V)} {cs : List (κ × Cl)} (r : KR K g vs cs) (k : κ) : KR K g (dropK vs k) (dropC cs k) := by
  unfold dropK dropC
  induction r with
  | nil => exact .nil
  | @cons p q ps qs h t ih =>
    rw [List.filter_cons, List.filter_cons]
    by_cases e : q.1 = k
    · rw [if_neg (by simp [h.1.trans e]), if_neg (by simp [e])]; exact ih
    · rw [if_pos (by simpa [h.1] using e), if_pos (by simpa using e)]; exact .cons h ih
end
theorem KR.merge {K : Frag} {g : Gh} {ms : List (Key × V)} {ns : List (Key × Cl)} (h : KR K g ms ns) : ∀ {vs : List (Key × V)} {cs : List (Key × Cl)}, KR K g vs cs → KR K g (mergeK vs ms) (mergeC cs ns) := by
  induction h with
  | nil => exact fun r => r
  | @cons p q ps qs h t ih =>
    intro vs cs r
    have z := r.put q.1 h.2
    have e : putK vs p.1 p.2 = putK vs q.1 p.2 := by rw [h.1]
    show KR K g (mergeK (putK vs p.1 p.2) ps) (mergeC (putC cs q.1 q.2) qs)
    rw [e]
    exact ih z
def toK : D → Option Key
  | .int i => some (.inl i)
  | .str x => some (.inr x)
  | _ => none
theorem toK_v {K : Frag} {H : Hp} {v : V} {d : D} {k : Key} (r : Rp K H v d) (h : toK d = some k) : v = kV k := by
  cases r <;> simp [toK] at h <;> subst h <;> rfl
theorem RE.dkAt {K : Frag} {G : Hp} {g : Gh} {H : Hp} {σ : L2.St} {δ : Sx} (r : RE K G g H σ δ) {l : Nat} {a : Addr} {xs : List (Key × Cl)} (h : g.r[l]? = some a) (hx : δ.s[l]? = some (.dk xs)) : ∃ vs, H a = some (.dK vs) ∧ KR K g vs xs := by
  obtain ⟨b, u, h1, h2, h3, h4⟩ := r.ob l _ hx rfl
  rw [h] at h1
  cases h1
  cases h3 with
  | dk h3 => exact ⟨_, h2, h3⟩
section
variable {X : Cx} {E : XQ} {a b e o f : Expr} {pos : Pos} {m mk mx : M D} {mc : M Cl} {ml : M Nat} {m1 m2 : M Fl}
/-- d[k] -/
def mDGet (ml : M Nat) (mk : M D) : M Cl := mBind ml fun l => mBind mk fun e δ => match δ.s[l]?, toK e with
  | some (.dk kvs), some k => match valC kvs k with
    | some c => .ok c δ
    | none => .bad
  | _, _ => .bad
theorem jc_dget (hu : X.A.units + 64 < cLine) (ho : PE X o (tOfL X.K E ml)) (hi : PE X e (tOf X.K E mk)) (hs : NoSl e) : PE X (.Subscript o e pos) (tOfC X.K E (mDGet ml mk)) :=
  pe_imp (pe_dget (by omega) ho hi hs) fun σ H Q ⟨G, g, δ, re, po⟩ => tOfL.step re po fun q l g1 H1 δ1 e1 re1 r1 po1 => tOf.step re1 po1 fun y d g2 H2 δ2 e2 re2 r2 po2 => by
    split at po2
    · rename_i kvs k hx hk
      split at po2
      · rename_i c hc
        obtain ⟨vs, h1, h2⟩ := re2.dkAt (e2.r _ _ r1) hx
        obtain ⟨v, h3, h4⟩ := h2.some hc
        refine ⟨q, v, rfl, ?_, Post.of po2 re2 v h4⟩
        rw [toK_v r2 hk, ← h3]
        exact DGet.k h1
      · exact po2.elim
    · exact po2.elim
def isDk (l : Nat) : M Nat := fun δ => match δ.s[l]? with
  | some (.dk _) => .ok l δ
  | _ => .bad
theorem isDk_ok (l : Nat) (δ : Sx) : isDk l δ = .bad ∨ ∃ xs, δ.s[l]? = some (.dk xs) ∧ isDk l δ = .ok l δ := by
  unfold isDk
  split
  · rename_i xs h
    exact .inr ⟨xs, h, rfl⟩
  · exact .inl rfl
theorem isDk_po {K : Frag} {G : Hp} {g : Gh} {σ : L2.St} {δ : Sx} {l : Nat} {β : Type} {f : Nat → M β} {QQ : β → Gh → Hp → Sx → Prop} (po : Post K E G g σ (mBind (isDk l) f δ) QQ) : ∃ xs, δ.s[l]? = some (.dk xs) ∧ Post K E G g σ (f l δ) QQ := by
  unfold mBind at po
  rcases isDk_ok l δ with h | ⟨xs, hx, h⟩
  · rw [h] at po; exact po.elim
  · rw [h] at po; exact ⟨xs, hx, po⟩
def mDGet2 (ml : M Nat) (mk : M D) (mc : M Cl) : M Cl := mBind ml fun l => mBind (isDk l) fun l => mBind mk fun e => mBind mc fun z δ => match δ.s[l]?, toK e with
  | some (.dk kvs), some k => .ok ((valC kvs k).getD z) δ
  | _, _ => .bad
theorem jc_dget2 {apos cpos : Pos} (hu : X.A.units + 64 < cLine) (ho : PE X o (tOfL X.K E ml)) (he : PE X e (tOf X.K E mk)) (hf : PE X f (tOfC X.K E mc)) (m : M2 X o "get" apos e f cpos) : PE X (.Call (.Attribute o "get" apos) [e, f] [] cpos) (tOfC X.K E (mDGet2 ml mk mc)) :=
  pe_imp (pe_dget2 (by omega) ho he hf m) fun σ H Q ⟨G, g, δ, re, po⟩ => tOfL.step re po fun q l g1 H1 δ1 e1 re1 r1 po1 => by
    obtain ⟨xs0, hx0, po1⟩ := isDk_po po1
    obtain ⟨vs0, k1, k2⟩ := re1.dkAt r1 hx0
    refine ⟨q, rfl, .inl ⟨vs0, .inl k1⟩, tOf.step re1 po1 fun y d g2 H2 δ2 e2 re2 r2 po2 => tOfC.step re2 po2 fun w z g3 H3 δ3 e3 re3 r3 po3 => ?_⟩
    split at po3
    · rename_i kvs k hx hk
      obtain ⟨vs, h1, h2⟩ := re3.dkAt (e3.r _ _ (e2.r _ _ r1)) hx
      refine ⟨valV vs k, ?_, ?_⟩
      · rw [toK_v r2 hk]
        exact DGet.k h1
      · rcases h2.val k with ⟨a1, a2⟩ | ⟨v, c, a1, a2, a3⟩
        · rw [a1] at po3; rw [a2]; exact Post.of po3 re3 w r3
        · rw [a1] at po3; rw [a2]; exact Post.of po3 re3 v a3
    · exact po3.elim
/-- d[k] = x -/
def mDPut (ml : M Nat) (mk : M D) (mc : M Cl) : M Fl := mBind mc fun c => mBind ml fun l => mBind mk fun e δ => match δ.s[l]?, toK e with
  | some (.dk kvs), some k => if kvs.length < sizeLine then .ok .nx ⟨δ.e, δ.s.set l (.dk (putC kvs k c))⟩ else .bad
  | _, _ => .bad
theorem js_dput {pos' : Pos} {v : Expr} (hu : X.A.units + 64 < cLine) (ho : PE X o (tOfL X.K E ml)) (hi : PE X e (tOf X.K E mk)) (hv : PE X v (tOfC X.K E mc)) (hs : swapsWith v (some (.Subscript o e pos')) pos.line X.env = pure false := by rfl) : PS X (.Assign [.Subscript o e pos'] v pos) (tOfS X.K E (mDPut ml mk mc)) :=
  pst_imp (ps_dput (by omega) ho hi hv hs) fun B σ H ⟨G, g, δ, re, po⟩ => tOfC.stepS re po fun w c g1 H1 δ1 e1 re1 r1 po1 => tOfL.stepS re1 po1 fun q l g2 H2 δ2 e2 re2 r2 po2 => tOf.stepS re2 po2 fun y d g3 H3 δ3 e3 re3 r3 po3 => by
    split at po3
    · rename_i kvs k hx hk
      split at po3
      · rename_i hl
        have ha := e3.r _ _ r2
        obtain ⟨vs, h1, h2⟩ := re3.dkAt ha hx
        refine ⟨q, _, rfl, ?_, PostS.of po3 (re3.write hx rfl ha (.dk (h2.put k ((r1.le e2).le e3))))⟩
        rw [toK_v r3 hk]
        exact DPut.k h1 (by rw [h2.length]; exact hl)
      · exact po3.elim
    · exact po3.elim
/-- k in d, k not in d -/
def mDIn (neg : Bool) (mk : M D) (ml : M Nat) : M D := mBind mk fun e => mBind ml fun l δ => match δ.s[l]?, toK e with
  | some (.dk kvs), some k => .ok (.bool (if neg then !(valC kvs k).isSome else (valC kvs k).isSome)) δ
  | _, _ => .bad
/-- {} -/
def mDNew : M Nat := mAll (.dk [])
theorem Fro.new {K : Frag} {G : Hp} {g : Gh} {H : Hp} {σ : L2.St} {δ : Sx} {p : Addr} {o : Ob} {u : HO} (re : RE K G g H σ δ) (hp : H p = none) (h : ObR K g o u) : Fro K G g (upd H p u) p o :=
  ⟨⟨u, upd_same, h⟩, ex_none re.ex hp, (by
    cases q : G p with
    | none => rfl
    | some u => have := (re.fg p u q).1; rw [hp] at this; cases this), re.nin hp⟩
theorem jl_dnew : PE X (.Dict [] [] pos) (tOfL X.K E mDNew) :=
  pe_imp pe_dnewK fun σ H Q ⟨G, g, δ, re, po⟩ p hp => by
    obtain ⟨g2, k1, k2⟩ := allS (re.newH (ex_new hp)) (Fro.new re hp (.dk .nil)) po
    exact k1 p k2
/-- {k: x, ..} -/
def evP : List (M D × M Cl) → M (List (Key × Cl))
  | [] => mPure []
  | (mk, mc) :: r => mBind mk fun e => mBind (mOpt (toK e)) fun k => mBind mc fun c => mBind (evP r) fun ps => mPure ((k, c) :: ps)
def mDisp (ps : List (M D × M Cl)) : M Nat := mBind (evP ps) fun kvs => mBind (mOpt (if kvs.length ≤ 15 then some () else none)) fun _ => mAll (.dk (mergeC [] kvs))
/-- something fresh that is nobody's, lent out to nobody -/
theorem RE.hide' {K : Frag} {G : Hp} {g : Gh} {H : Hp} {σ : L2.St} {δ : Sx} {C : Addr} {u : HO} (re : RE K G g H σ δ) (ha : H C = some u) (hs : g.h C = none) (nr : C ∉ g.r) (hu : ∀ xs, u ≠ .tup xs) (hx : ∀ fs, u ≠ .xd fs := by intro _ z; cases z) : RE K (upd G C u) g H σ δ where
  ex := re.ex
  fg := fun a o q => by
    by_cases e : a = C
    · subst e
      rw [upd_same] at q
      cases q
      exact ⟨ha, hs, nr⟩
    · rw [upd_ne e] at q
      exact re.fg a o q
  len := re.len
  rl := re.rl
  sl := re.sl
  ob := re.ob
  nd := re.nd
  al := re.al
  nt := fun a ys q => by
    have e : a ≠ C := fun z => by subst z; rw [ha] at q; cases q; exact hu ys rfl
    rw [upd_ne e]
    exact re.nt a ys q
  gx := fun a fs q => by
    by_cases e : a = C
    · subst e; rw [upd_same] at q; cases q; exact hx _ rfl
    · rw [upd_ne e] at q; exact re.gx a fs q
  fz := re.fz
inductive PPJ (X : Cx) (E : XQ) (pos : Pos) : List (Option Expr) → List Expr → List (TE × TE) → List (M D × M Cl) → Prop where
  | nil : PPJ X E pos [] [] [] []
  | cons {k v : Expr} {ks : List (Option Expr)} {vs : List Expr} {trs : List (TE × TE)} {ps : List (M D × M Cl)} {mk : M D} {mc : M Cl} : PE X k (tOf X.K E mk) → PE X v (tOfC X.K E mc) → PPJ X E pos ks vs trs ps → PPJ X E pos (some k :: ks) (v :: vs) ((tOf X.K E mk, tOfC X.K E mc) :: trs) ((mk, mc) :: ps)
theorem PPJ.pps {X : Cx} {E : XQ} {pos : Pos} {ks : List (Option Expr)} {vs : List Expr} {trs : List (TE × TE)} {ps : List (M D × M Cl)} (h : PPJ X E pos ks vs trs ps) : PPs X pos ks vs trs := by
  induction h with
  | nil => exact pps_nil
  | cons h1 h2 _ ih => exact pps_cons h1 h2 ih
theorem PPJ.all {X : Cx} {E : XQ} {pos : Pos} {ks : List (Option Expr)} {vs : List Expr} {trs : List (TE × TE)} {ps : List (M D × M Cl)} (h : PPJ X E pos ks vs trs ps) : ks.all (·.isSome) = true ∧ ks.length = vs.length := by
  induction h with
  | nil => exact ⟨rfl, rfl⟩
  | cons h1 h2 _ ih => exact ⟨by rw [List.all_cons, ih.1]; rfl, by rw [List.length_cons, List.length_cons, ih.2]⟩
theorem PPJ.read {X : Cx} {E : XQ} {pos : Pos} {ks : List (Option Expr)} {vs : List Expr} {trs : List (TE × TE)} {ps : List (M D × M Cl)} (h : PPJ X E pos ks vs trs ps) : ∀ {G : Hp} {g : Gh} {H : Hp} {σ : L2.St} {δ : Sx} {β : Type} {f : List (Key × Cl) → M β} {QQ : β → Gh → Hp → Sx → Prop} {R : List (V × V) → Hp → Prop}, RE X.K G g H σ δ → Post X.K E G g σ (mBind (evP ps) f δ) QQ →
    (∀ kvs cs g1 H1 δ1, Le g g1 → RE X.K G g1 H1 σ δ1 → KR X.K g1 kvs cs → Post X.K E G g1 σ (f cs δ1) QQ → R (kvs.map fun kv => (kV kv.1, kv.2)) H1) → tPairs trs σ H R := by
  induction h with
  | nil =>
    intro G g H σ δ β f QQ R re po k
    exact k [] [] g H δ (Le.refl _) re .nil po
  | @cons ek ev ks vs trs ps mk mc h1 h2 _ ih =>
    intro G g H σ δ β f QQ R re po k
    unfold evP at po
    rw [bind_assoc] at po
    refine tOf.step re po fun x d g1 H1 δ1 e1 re1 r1 po1 => ?_
    rw [bind_assoc] at po1
    obtain ⟨kk, hk, po2⟩ := Post.optB po1
    rw [bind_assoc] at po2
    refine tOfC.step re1 po2 fun y c g2 H2 δ2 e2 re2 r2 po3 => ?_
    rw [bind_assoc] at po3
    refine ih re2 po3 fun kvs cs g3 H3 δ3 e3 re3 r3 po4 => ?_
    have := k ((kk, y) :: kvs) ((kk, c) :: cs) g3 H3 δ3 ((e1.trans e2).trans e3) re3 (.cons ⟨rfl, r2.le e3⟩ r3) po4
    rw [List.map_cons] at this
    rw [toK_v r1 hk]
    exact this
theorem jl_disp {ks : List (Option Expr)} {vs : List Expr} {trs : List (TE × TE)} {ps : List (M D × M Cl)} (h : PPJ X E pos ks vs trs ps) (h0 : ks ≠ []) (h15 : ks.length ≤ 15) : PE X (.Dict ks vs pos) (tOfL X.K E (mDisp ps)) :=
  pe_imp (pe_disp h.pps h.all.1 h.all.2 h0 h15) fun σ H Q ⟨G, g, δ, re, po⟩ p hp => by
    have en : Ex H (upd H p (.dK [])) := ex_new hp
    have f := Fro.new (o := .dk []) re hp (.dk .nil)
    have re1 := (re.newH en).hide' (C := p) (u := .dK []) upd_same f.hs f.nr (fun _ z => nomatch z)
    have po' : Post X.K E (upd G p (.dK [])) g σ (mBind (evP ps) (fun kvs => mPure kvs) δ) fun kvs g' H' δ' => ∃ g2 H2 δ2, RE X.K (upd G p (.dK [])) g' H' σ δ' ∧ (∀ u, RE X.K G g' u σ δ' → Post X.K E G g' σ (mBind (mOpt (if kvs.length ≤ 15 then some () else none)) (fun _ => mAll (.dk (mergeC [] kvs))) δ') fun l g' H' _ => ∀ a, g'.r[l]? = some a → Q (.ref a) H') ∧ g2 = g' ∧ H2 = H' ∧ δ2 = δ' := by
      unfold mDisp at po
      unfold mBind at po ⊢
      cases q : evP ps δ with
      | ok kvs δ1 =>
        rw [q] at po
        exact fun g' H' e r => ⟨g', H', δ1, r, fun u _ => Post.ex po e, rfl, rfl, rfl⟩
      | exc x δ1 =>
        rw [q] at po
        intro g' H' e r
        have hr := r.shown (u := .dK []) (C := p) f.gg
        have z := po g' _ e hr
        have hu : upd H' p (.dK []) = H' := by
          funext b
          by_cases hb : b = p
          · subst hb; rw [upd_same]; exact ((r.fg b _ upd_same).1).symm
          · rw [upd_ne hb]
        rw [hu] at z
        exact z
      | bad => rw [q] at po; exact po
    refine h.read re1 po' fun kvs cs g2 H2 δ2 e2 re2 r2 po2 => ?_
    obtain ⟨_, _, _, re3, po3, _⟩ := po2 g2 H2 (Le.refl _) re2
    have hf := re2.fg p _ upd_same
    refine ⟨hf.1, kvs, rfl, ?_, ?_⟩
    · have := po3 _ (re2.shown (u := .dK []) f.gg)
      obtain ⟨_, h1, _⟩ := Post.optB this
      split at h1
      · rename_i hl
        rw [r2.length]; exact hl
      · cases h1
    · have re4 := re2.shown (u := .dK (mergeK [] kvs)) f.gg
      obtain ⟨_, h1, po4⟩ := Post.optB (po3 _ re4)
      have fr : Fro X.K G g2 (upd H2 p (.dK (mergeK [] kvs))) p (.dk (mergeC [] cs)) := ⟨⟨_, upd_same, .dk (KR.merge r2 .nil)⟩, hf.2.1, f.gg, hf.2.2⟩
      obtain ⟨g5, k1, k2⟩ := allS re4 fr po4
      exact k1 p k2
def mUpd (ml mo : M Nat) : M Fl := mBind ml fun l => mBind (isDk l) fun l => mBind mo fun k δ => match δ.s[l]?, δ.s[k]? with
  | some (.dk kvs), some (.dk more) => if l ≠ k ∧ kvs.length + more.length ≤ sizeLine then .ok .nx ⟨δ.e, δ.s.set l (.dk (mergeC kvs more))⟩ else .bad
  | _, _ => .bad
end
end Ds
namespace Ds
open PySem PySem.Spec PyProof.Rows L2 PySem.Froz
section
variable {P : Program} {w : World} {A : Around} {E : Value → Shared → Prop} {s : Shared} {a : Addr} {l : List Str}
def TxSet (P : Program) (w : World) (h : Heap) (a : Addr) (l : List Str) : Prop :=
  ∃ D : SD, h.get? a = some (sObj "set" D) ∧ TxOk P w D l ∧ Ris D.2.2.place.toList ∧ (w.params.followText "set-order" = true ∨ D.2.2.led = true) ∧ l.Nodup ∧ l.length < scanBound
theorem TxSet.at_ {h h' : Heap} (R : TxSet P w h a l) (k : ∀ o, h.get? a = some o → h'.get? a = some o) : TxSet P w h' a l := by
  obtain ⟨D, ho, r⟩ := R
  exact ⟨D, k _ ho, r⟩
def setNo (w : World) : Obj := { cls := .type "set", dict := none, data := .set #[] 0 (.fresh 0 0 (!w.params.followText "set-order")) }
theorem TxSet.none {h : Heap} (ho : h.get? a = some (setNo w)) : TxSet P w h a [] :=
  ⟨(#[], 0, .fresh 0 0 (!w.params.followText "set-order")), ho, TxOk.nil rfl, List.Pairwise.nil, by
    show _ ∨ (!w.params.followText "set-order") = true
    cases w.params.followText "set-order"
    · exact .inr rfl
    · exact .inl rfl, List.nodup_nil, by decide⟩
theorem tail_ris {ep : Nat} {es1 : Array (Int × Value)} {t2 : SetTable} {b : Bool} (r : Ris t2.place.toList) : Ris (tailTx ep es1 t2 b).2.2.place.toList ∧ (tailTx ep es1 t2 b).2.2.led = t2.led := by
  unfold tailTx
  split
  · exact ⟨relayAll_ris _ _ _, relayAll_led _ _ _⟩
  · exact ⟨r, rfl⟩
theorem add_ris {D : SD} {h : Int} {v : Value} (r : Ris D.2.2.place.toList) : Ris (addTx h v D).2.2.place.toList ∧ (addTx h v D).2.2.led = D.2.2.led := by
  unfold addTx
  have r1 := layNew_ris D.2.2 D.1 h v r
  have l1 := layNew_led D.2.2 D.1 h v
  split
  · obtain ⟨a1, a2⟩ := tail_ris (ep := D.2.1) (es1 := (layNew D.2.2 D.1 h v).1) (b := (layNew D.2.2 D.1 h v).2.2.1) (t2 := { (layNew D.2.2 D.1 h v).2.1 with plain := false }) r1
    exact ⟨a1, a2.trans l1⟩
  · obtain ⟨a1, a2⟩ := tail_ris (ep := D.2.1) (es1 := (layNew D.2.2 D.1 h v).1) (b := (layNew D.2.2 D.1 h v).2.2.1) r1
    exact ⟨a1, a2.trans l1⟩
def addT (l : List Str) (k : Str) : List Str := if k ∈ l then l else k :: l
theorem TxSet.add {k : Str} {u : Tok} {Q : Bool → Shared → Prop} (R : TxSet P w s.heap a l) (hb : l.length + 1 < scanBound)
    (hQ : ∀ (h' : Heap) (b : Bool), Heap.SameBut a s.heap h' → TxSet P w h' a (addT l k) → Q b { s with heap := h' }) : wpAny (model P w) A (setAddHashed a (.str k u) (hashStr w k)) Q E s := by
  obtain ⟨D, ho, F, r, hl, nd, hlen⟩ := R
  by_cases hk : k ∈ l
  · obtain ⟨es, ep, t⟩ := D
    have hkey : (strKind P w).is k (.str k u) = true := is_str k u
    have hel : ElemsOf (strKind P w) es.toList := F.el
    have hsz : es.size = l.length := F.sz
    unfold setAddHashed setAddHashedIn
    refine wpAny_holding (wpAny_bind (wpAny_setState_of ho rfl F.fit ?_))
    dsimp only
    rw [byScan_of rfl (by omega) hel]
    simp only [↓reduceIte]
    unfold setAddByScan
    refine wpAny_bind ?_
    refine wpAny_bind (wpAny_rule ?_)
    refine wpAny_bind (wpAny_setScan_of hkey ho rfl F.fit hel ?_)
    cases hfi : List.findIdx? (fun e => (strKind P w).is k e.2) es.toList with
    | some j =>
      dsimp only
      refine wpAny_pure (wpAny_pure ?_)
      refine hQ s.heap false (Heap.SameBut.refl a s.heap) ?_
      unfold addT
      rw [if_pos hk]
      exact ⟨(es, ep, t), ho, F, r, hl, nd, hlen⟩
    | none =>
      obtain ⟨e, he, q⟩ := (F.mem k).mp hk
      have c := List.findIdx?_eq_none_iff.mp hfi e he
      rw [q] at c
      cases c
  · refine add_x ho F hk hb ?_
    have hlt : a < s.heap.objs.size := Heap.lt_size ho
    refine hQ _ true ?_ ?_
    · exact Heap.SameBut.update _ _ _
    · unfold addT
      rw [if_neg hk]
      obtain ⟨r1, r2⟩ := add_ris (h := hashStr w k) (v := .str k u) r
      exact ⟨_, get_upd _ ho rfl, add_ok u F, r1, hl.imp id fun z => r2.trans z, List.nodup_cons.mpr ⟨hk, nd⟩, hb⟩
def metT (xs : List Str) : List Str := xs.foldl addT []
theorem metT_take {xs : List Str} {i : Nat} {x : Str} (h : xs[i]? = some x) : metT (xs.take (i + 1)) = addT (metT (xs.take i)) x := by
  unfold metT
  rw [List.take_add_one, h, List.foldl_append]
  rfl
theorem addT_len (l : List Str) (x : Str) : (addT l x).length ≤ l.length + 1 := by
  unfold addT
  split
  · omega
  · simp
theorem metT_len (xs : List Str) : (metT xs).length ≤ xs.length := by
  have h : ∀ (xs l : List Str), (xs.foldl addT l).length ≤ l.length + xs.length := fun xs => by
    induction xs with
    | nil => intro l; simp
    | cons x r ih =>
      intro l
      have h1 := ih (addT l x)
      have h2 := addT_len l x
      rw [List.foldl_cons, List.length_cons]
      omega
  have := h xs []
  simpa [metT] using this
theorem texts_in {C : Addr} {fp wr : List Addr} {G : Array GenState → Array GenState → Prop} {n : Nat} {Pv : Nat → Value → Prop} {St : Nat → Shared → Prop} {R : Result → Shared → Prop} {I : Addr}
    (W : WalksS P w A.in1 I fp wr G n Pv St) (hC : C ∉ fp) (xs : List Str) (hn : n = xs.length) (hb : xs.length + 1 < scanBound) (hv : ∀ i v, Pv i v → ∃ k t, xs[i]? = some k ∧ v = .str k t) (m : Nat) :
    ∀ (i : Nat) (s : Shared), n - i = m → i ≤ n → St i s → TxSet P w s.heap C (metT (xs.take i)) →
      (∀ s', Moved (C :: wr) G s s' → TxSet P w s'.heap C (metT xs) → R (.ok (.ret .none)) s') → codeAny (model P w) A (.builtin "set.update.loop" ⟨[.ref C, .ref I], []⟩) R s := by
  have cw : C ∉ wr := fun h => hC (W.sub _ h)
  have ws : ∀ b ∈ wr, b ∈ C :: wr := fun b hb => List.mem_cons_of_mem _ hb
  induction m with
  | zero =>
    intro i s hm hi st hS hR
    obtain rfl : i = n := by omega
    refine codeAny_builtin F.entry_set_update_loop ?_
    rw [Around.under_plainId F.plain_set_update_loop _]
    show wpAny _ A.in1 (pyNext (.ref I) >>= _) _ _ s
    refine wpAny_bind (W.done s _ _ st fun s1 mv => ?_)
    rw [List.take_of_length_le (by omega)] at hS
    exact wpAny_pure (hR s1 (mv.mono ws) (hS.at_ fun o e => mv.heap C o cw e))
  | succ m ih =>
    intro i s hm hi st hS hR
    have lt : i < n := by omega
    refine codeAny_builtin F.entry_set_update_loop ?_
    rw [Around.under_plainId F.plain_set_update_loop _]
    show wpAny _ A.in1 (pyNext (.ref I) >>= _) _ _ s
    refine wpAny_bind (W.item i s _ _ lt st fun v s1 hp st1 mv => ?_)
    obtain ⟨z, t, hz, rfl⟩ := hv i v hp
    show wpAny _ A.in1 (holding [Value.str z t] (setAdd C (.str z t)) >>= _) _ _ s1
    refine wpAny_bind (wpAny_holding ?_)
    unfold setAdd
    refine wpAny_holding ?_
    refine wpAny_bind ((strKind P w).pyHash (k := z) (is_str z t) ?_)
    have hlen := metT_len (xs.take i)
    rw [List.length_take] at hlen
    refine TxSet.add (s := { s1 with toks := s1.toks + 1 }) (hS.at_ fun o e => mv.heap C o cw e) (by omega) fun h2 b2 sb hS2 => ?_
    rw [← metT_take hz] at hS2
    refine wpAny_pure ⟨plainId_quiet F.plain_set_update_loop _, ih (i + 1) _ (by omega) lt (W.frame _ s1 _ _ st1 (Nat.le_succ _) fun b hb o e => ?_) hS2 fun s3 mv3 hS3 => ?_⟩
    · rw [sb.2 b (fun q : b = C => hC (q ▸ hb))]; exact e
    · refine hR s3 (Moved.trans W.gtrans ((mv.mono ws).then_heap (Nat.le_succ _) fun b o hb e => ?_) mv3) hS3
      rw [sb.2 b (fun q : b = C => hb (by rw [q]; exact List.mem_cons_self))]; exact e
set_option maxHeartbeats 8000000 in
theorem set_of_list {p : Addr} {items : Array Value} (xs : List Str) {Q : Value → Shared → Prop} (hh : A.handled = none) (hp : s.heap.IsList p items) (hi : StrsAre items.toList xs) (hb : xs.length + 1 < scanBound)
    (h : ∀ (h2 : Heap) (tk : Nat), TxSet P w h2 s.heap.objs.size (metT xs) → (∀ b o, s.heap.get? b = some o → h2.get? b = some o) → Q (.ref s.heap.objs.size) { s with heap := h2, toks := tk }) : wpAny (model P w) A (call (.type "set") [.ref p]) Q E s := by
  have hsz : items.size = xs.length := by
    have q := hi.length
    rwa [Array.length_toList] at q
  obtain ⟨c0, t0, hmro⟩ := PySem.F.called_set.mro
  have hmade0 := PySem.F.called_set.made
  have hsub0 := PySem.F.called_set.sub
  refine wpAny_call (codeAny_of_tree ?_)
  show wpAny _ _ (callAny (.type "set") _) _ _ _
  refine wpAny_pure ⟨Code.quiet_builtin _ (by decide +kernel), codeAny_builtin PySem.F.entry_type_call ?_⟩
  rw [Around.under_plain (weight_type_call_type "set" [.ref p] []) rfl]
  have f1 := PySem.F.called_set.notType
  have f2 := PySem.F.called_set.canCreate
  have f3 := PySem.F.typeCall_set_1 (.ref p)
  repeat (any_goals (first | assumption | wp_step))
  refine codeAny_mono (code_set_led1 (.ref p) (E := E) (Q₁ := fun z s1 => z = .ref s.heap.objs.size ∧ s1 = { s with heap := s.heap.push (setNo w) }) ⟨rfl, rfl⟩) fun r s1 hr => ?_
  cases r with
  | error e => exact hr
  | ok fl =>
    cases fl with
    | ret z =>
      obtain ⟨rfl, rfl⟩ := hr
      have at0 : (s.heap.push (setNo w)).get? s.heap.objs.size = some (setNo w) := Heap.get?_push_size _ rfl
      have ty0 : Shared.TypeIs { s with heap := s.heap.push (setNo w) } (.ref s.heap.objs.size) "set" := ⟨_, at0, rfl⟩
      have g1 := PySem.F.called_set.init.lookup
      have g2 := PySem.F.called_set.init.bind (.ref s.heap.objs.size)
      repeat (any_goals (first | assumption | wp_step))
      refine codeAny_mono (codeAny_call_builtin (R := wants (fun r s2 => r = .none ∧ ∃ h2 tk, s2 = { s with heap := h2, toks := tk } ∧ TxSet P w h2 s.heap.objs.size (metT xs) ∧
          (∀ b o, s.heap.get? b = some o → h2.get? b = some o)) E) PySem.F.called_set.init.plain PySem.F.entry_set_init (check_set_init_1 ty0 ?_)) fun r2 s2 hr2 => ?_
      · obtain ⟨op, hop, hcl, nn, hdl⟩ := hp
        obtain ⟨ocls, odict, odata, oslots⟩ := op
        simp only at hcl hdl
        subst hcl; subst hdl
        have q1 := PySem.F.sub_list_set
        have q2 := PySem.F.sub_list_frozenset
        have q3 : (Value.type "list" == Value.type "dict") = false := by decide
        have hop2 : (s.heap.push (setNo w)).get? p = some { cls := .type "list", dict := odict, data := .seq items nn, slots := oslots } := Heap.get?_push_of_some _ hop
        have p1 : (s.heap.push (setNo w)).IsList p items := ⟨_, hop2, rfl, nn, rfl⟩
        unfold Builtin.«set.__init__» noKeywords Builtin.Frozenset.updateFrom
        generalize hPI : pyIter = PI
        wp_walk
        subst hPI
        refine wpAny_pyIter_list p1 ?_
        refine wpAny_bind (wpAny_runValue ?_)
        have plt : p < s.heap.objs.size := Heap.lt_size hop
        have hh3 : A.in1.in1.in1.handled = none := by simp [hh]
        have neI : p ≠ (s.heap.push (setNo w)).objs.size := by
          rw [Heap.size_push]; exact Nat.ne_of_lt (Nat.lt_succ_of_lt plt)
        have nf : s.heap.objs.size ∉ [(s.heap.push (setNo w)).objs.size, p] := by
          rw [Heap.size_push]
          simp only [List.mem_cons, List.not_mem_nil, or_false, not_or]
          exact ⟨Nat.ne_of_lt (Nat.lt_succ_self _), Nat.ne_of_gt plt⟩
        have hv : ∀ (i : Nat) (v : Value), items[i]? = some v → ∃ k t, xs[i]? = some k ∧ v = .str k t := fun i v hv => by
          have hi2 : i < xs.length := by rw [← hsz]; exact (Array.getElem?_eq_some_iff.mp hv).1
          obtain ⟨t, e⟩ := SS.strs_at hi i v (by rw [Array.getElem?_toList]; exact hv)
          refine ⟨xs[i], t, List.getElem?_eq_getElem hi2, ?_⟩
          rw [e, List.getD_eq_getElem?_getD, List.getElem?_eq_getElem hi2] <;> rfl
        refine texts_in ((Walks.list hh3 _ p neI items).toS) (C := s.heap.objs.size) nf xs hsz hb hv (items.size - 0) 0 _ (by omega) (Nat.zero_le _) ⟨⟨_, Heap.get?_push_size _ rfl, rfl, rfl⟩, (p1.push _)⟩ ?hS0 ?hR
        case hS0 =>
          exact TxSet.none (Heap.get?_push_of_some _ at0)
        case hR =>
          intro s3 mv hS3
          obtain ⟨h3, n3, d3, t3, o3⟩ := s3
          have e1 : n3 = s.gens := mv.gens
          have e2 : d3 = s.drawn := mv.drawn
          have e3 : o3 = s.os := mv.os
          subst e1; subst e2; subst e3
          show wpAny _ _ _ _ _ _
          refine wpAny_pure ?_
          show wpAny _ _ (ret Value.none) _ _ _
          refine wpAny_pure ⟨rfl, h3, t3, rfl, hS3, fun b o e => ?_⟩
          have lb : b < s.heap.objs.size := Heap.lt_size e
          have n1 : b ≠ s.heap.objs.size := Nat.ne_of_lt lb
          have n2 : b ≠ (s.heap.push (setNo w)).objs.size := by
            rw [Heap.size_push]; exact Nat.ne_of_lt (Nat.lt_succ_of_lt lb)
          exact mv.heap b o (by simp only [List.mem_cons, List.not_mem_nil, or_false, not_or]; exact ⟨n1, n2⟩) (Heap.get?_push_of_some _ (Heap.get?_push_of_some _ e))
      · cases r2 with
        | error e => exact hr2
        | ok fl2 =>
          cases fl2 with
          | ret r =>
            obtain ⟨rfl, h2, tk, rfl, hS2, k2⟩ := hr2
            repeat (any_goals (first | assumption | wp_step))
            exact h _ _ hS2 k2
          | _ => exact hr2.elim
    | _ => exact hr.elim
set_option maxHeartbeats 8000000 in
theorem set_of_tuple {p : Addr} {items : Array Value} (xs : List Str) {Q : Value → Shared → Prop} (hh : A.handled = none) (hp : s.heap.IsTuple p items) (hi : StrsAre items.toList xs) (hb : xs.length + 1 < scanBound)
    (h : ∀ (h2 : Heap) (tk : Nat), TxSet P w h2 s.heap.objs.size (metT xs) → (∀ b o, s.heap.get? b = some o → h2.get? b = some o) → Q (.ref s.heap.objs.size) { s with heap := h2, toks := tk }) : wpAny (model P w) A (call (.type "set") [.ref p]) Q E s := by
  have hsz : items.size = xs.length := by
    have q := hi.length
    rwa [Array.length_toList] at q
  obtain ⟨c0, t0, hmro⟩ := PySem.F.called_set.mro
  have hmade0 := PySem.F.called_set.made
  have hsub0 := PySem.F.called_set.sub
  refine wpAny_call (codeAny_of_tree ?_)
  show wpAny _ _ (callAny (.type "set") _) _ _ _
  refine wpAny_pure ⟨Code.quiet_builtin _ (by decide +kernel), codeAny_builtin PySem.F.entry_type_call ?_⟩
  rw [Around.under_plain (weight_type_call_type "set" [.ref p] []) rfl]
  have f1 := PySem.F.called_set.notType
  have f2 := PySem.F.called_set.canCreate
  have f3 := PySem.F.typeCall_set_1 (.ref p)
  repeat (any_goals (first | assumption | wp_step))
  refine codeAny_mono (code_set_led1 (.ref p) (E := E) (Q₁ := fun z s1 => z = .ref s.heap.objs.size ∧ s1 = { s with heap := s.heap.push (setNo w) }) ⟨rfl, rfl⟩) fun r s1 hr => ?_
  cases r with
  | error e => exact hr
  | ok fl =>
    cases fl with
    | ret z =>
      obtain ⟨rfl, rfl⟩ := hr
      have at0 : (s.heap.push (setNo w)).get? s.heap.objs.size = some (setNo w) := Heap.get?_push_size _ rfl
      have ty0 : Shared.TypeIs { s with heap := s.heap.push (setNo w) } (.ref s.heap.objs.size) "set" := ⟨_, at0, rfl⟩
      have g1 := PySem.F.called_set.init.lookup
      have g2 := PySem.F.called_set.init.bind (.ref s.heap.objs.size)
      repeat (any_goals (first | assumption | wp_step))
      refine codeAny_mono (codeAny_call_builtin (R := wants (fun r s2 => r = .none ∧ ∃ h2 tk, s2 = { s with heap := h2, toks := tk } ∧ TxSet P w h2 s.heap.objs.size (metT xs) ∧
          (∀ b o, s.heap.get? b = some o → h2.get? b = some o)) E) PySem.F.called_set.init.plain PySem.F.entry_set_init (check_set_init_1 ty0 ?_)) fun r2 s2 hr2 => ?_
      · obtain ⟨op, hop, hcl, nn, hdl⟩ := hp
        obtain ⟨ocls, odict, odata, oslots⟩ := op
        simp only at hcl hdl
        subst hcl; subst hdl
        have q1 := PySem.F.sub_tuple_set
        have q2 := PySem.F.sub_tuple_frozenset
        have q3 : (Value.type "tuple" == Value.type "dict") = false := by decide
        have hop2 : (s.heap.push (setNo w)).get? p = some { cls := .type "tuple", dict := odict, data := .seq items nn, slots := oslots } := Heap.get?_push_of_some _ hop
        have p1 : (s.heap.push (setNo w)).IsTuple p items := ⟨_, hop2, rfl, nn, rfl⟩
        unfold Builtin.«set.__init__» noKeywords Builtin.Frozenset.updateFrom
        generalize hPI : pyIter = PI
        wp_walk
        subst hPI
        refine wpAny_pyIter_tuple p1 ?_
        refine wpAny_bind (wpAny_runValue ?_)
        have plt : p < s.heap.objs.size := Heap.lt_size hop
        have hh3 : A.in1.in1.in1.handled = none := by simp [hh]
        have neI : p ≠ (s.heap.push (setNo w)).objs.size := by
          rw [Heap.size_push]; exact Nat.ne_of_lt (Nat.lt_succ_of_lt plt)
        have nf : s.heap.objs.size ∉ [(s.heap.push (setNo w)).objs.size, p] := by
          rw [Heap.size_push]
          simp only [List.mem_cons, List.not_mem_nil, or_false, not_or]
          exact ⟨Nat.ne_of_lt (Nat.lt_succ_self _), Nat.ne_of_gt plt⟩
        have hv : ∀ (i : Nat) (v : Value), items[i]? = some v → ∃ k t, xs[i]? = some k ∧ v = .str k t := fun i v hv => by
          have hi2 : i < xs.length := by rw [← hsz]; exact (Array.getElem?_eq_some_iff.mp hv).1
          obtain ⟨t, e⟩ := SS.strs_at hi i v (by rw [Array.getElem?_toList]; exact hv)
          refine ⟨xs[i], t, List.getElem?_eq_getElem hi2, ?_⟩
          rw [e, List.getD_eq_getElem?_getD, List.getElem?_eq_getElem hi2] <;> rfl
        refine texts_in ((Walks.tuple hh3 _ p neI items).toS) (C := s.heap.objs.size) nf xs hsz hb hv (items.size - 0) 0 _ (by omega) (Nat.zero_le _) ⟨⟨_, Heap.get?_push_size _ rfl, rfl, rfl⟩, (p1.push _)⟩ ?hS0 ?hR
        case hS0 =>
          exact TxSet.none (Heap.get?_push_of_some _ at0)
        case hR =>
          intro s3 mv hS3
          obtain ⟨h3, n3, d3, t3, o3⟩ := s3
          have e1 : n3 = s.gens := mv.gens
          have e2 : d3 = s.drawn := mv.drawn
          have e3 : o3 = s.os := mv.os
          subst e1; subst e2; subst e3
          show wpAny _ _ _ _ _ _
          refine wpAny_pure ?_
          show wpAny _ _ (ret Value.none) _ _ _
          refine wpAny_pure ⟨rfl, h3, t3, rfl, hS3, fun b o e => ?_⟩
          have lb : b < s.heap.objs.size := Heap.lt_size e
          have n1 : b ≠ s.heap.objs.size := Nat.ne_of_lt lb
          have n2 : b ≠ (s.heap.push (setNo w)).objs.size := by
            rw [Heap.size_push]; exact Nat.ne_of_lt (Nat.lt_succ_of_lt lb)
          exact mv.heap b o (by simp only [List.mem_cons, List.not_mem_nil, or_false, not_or]; exact ⟨n1, n2⟩) (Heap.get?_push_of_some _ (Heap.get?_push_of_some _ e))
      · cases r2 with
        | error e => exact hr2
        | ok fl2 =>
          cases fl2 with
          | ret r =>
            obtain ⟨rfl, h2, tk, rfl, hS2, k2⟩ := hr2
            repeat (any_goals (first | assumption | wp_step))
            exact h _ _ hS2 k2
          | _ => exact hr2.elim
    | _ => exact hr.elim
end
end Ds
namespace Ds
open PySem PySem.Spec PyProof.Rows L2 PySem.Froz
def leS (a b : Str) : Bool := !ltCps b.cps.toList a.cps.toList
def sortT (xs : List Str) : List Str := xs.mergeSort leS
theorem leS_lt (a b : Str) : leS a b = !decide (b.cps.toList < a.cps.toList) := by unfold leS; rw [ltCps_eq]
theorem leS_total (a b : Str) : (leS a b || leS b a) = true := by
  rw [leS_lt, leS_lt]
  by_cases h : b.cps.toList < a.cps.toList
  · have h2 : ¬ a.cps.toList < b.cps.toList := List.lt_asymm h
    simp [h, h2]
  · simp [h]
theorem leS_trans (a b c : Str) (h1 : leS a b = true) (h2 : leS b c = true) : leS a c = true := by
  rw [leS_lt] at *
  have h1 : ¬ b.cps.toList < a.cps.toList := by simpa using h1
  have h2 : ¬ c.cps.toList < b.cps.toList := by simpa using h2
  have : ¬ c.cps.toList < a.cps.toList := fun h => by
    have := List.le_trans (List.not_lt.mp h1) (List.not_lt.mp h2)
    exact List.not_lt.mpr this h
  simpa using this
theorem leS_anti {a b : Str} (h1 : leS a b = true) (h2 : leS b a = true) : a = b := by
  rw [leS_lt] at *
  have h1 : ¬ b.cps.toList < a.cps.toList := by simpa using h1
  have h2 : ¬ a.cps.toList < b.cps.toList := by simpa using h2
  exact Str.ext' (Array.toList_inj.mp (List.le_antisymm (List.not_lt.mp h1) (List.not_lt.mp h2)))
theorem rising_le : ∀ {l : List Str} {p : Str}, risingS p l = true → (p :: l).Pairwise fun a b => leS a b = true
  | [], p, _ => List.pairwise_singleton _ _
  | x :: r, p, h => by
    have h : (!ltCps x.cps.toList p.cps.toList && risingS x r) = true := h
    rw [Bool.and_eq_true] at h
    have ih := rising_le h.2
    refine List.pairwise_cons.mpr ⟨fun y hy => ?_, ih⟩
    rcases List.mem_cons.mp hy with e | hy
    · subst e; exact h.1
    · exact leS_trans p x y h.1 ((List.pairwise_cons.mp ih).1 y hy)
theorem sortedS_le {l : List Str} (h : sortedS l = true) : l.Pairwise fun a b => leS a b = true := by
  cases l with
  | nil => exact List.Pairwise.nil
  | cons x r => exact rising_le h
theorem sort_one : ∀ {xs ys : List Str}, (xs.Pairwise fun a b => leS a b = true) → (ys.Pairwise fun a b => leS a b = true) → xs.Perm ys → xs = ys
  | [], ys, _, _, p => (List.nil_perm.mp p).symm
  | x :: xs, [], _, _, p => absurd p (List.not_perm_cons_nil)
  | x :: xs, y :: ys, h1, h2, p => by
    have e : x = y := by
      have m1 := p.mem_iff.mp (List.mem_cons_self (a := x))
      have m2 := p.mem_iff.mpr (List.mem_cons_self (a := y))
      rcases List.mem_cons.mp m1 with e | m1
      · exact e
      · rcases List.mem_cons.mp m2 with e | m2
        · exact e.symm
        · exact leS_anti ((List.pairwise_cons.mp h1).1 y m2) ((List.pairwise_cons.mp h2).1 x m1)
    subst e
    rw [sort_one (List.pairwise_cons.mp h1).2 (List.pairwise_cons.mp h2).2 (List.perm_cons x |>.mp p)]
theorem sortT_of {xs ys : List Str} (h : sortedS ys = true) (p : ys.Perm xs) : ys = sortT xs :=
  sort_one (sortedS_le h) (List.pairwise_mergeSort leS_trans leS_total xs) (p.trans (List.mergeSort_perm xs leS).symm)
theorem mem_addT {l : List Str} {x y : Str} : y ∈ addT l x ↔ y ∈ l ∨ y = x := by
  unfold addT
  split
  · rename_i h
    exact ⟨.inl, fun z => z.elim id fun e => e ▸ h⟩
  · rw [List.mem_cons]
    exact Or.comm
theorem mem_metT {xs : List Str} {y : Str} : y ∈ metT xs ↔ y ∈ xs := by
  have h : ∀ (xs l : List Str), y ∈ xs.foldl addT l ↔ y ∈ l ∨ y ∈ xs := fun xs => by
    induction xs with
    | nil => intro l; simp
    | cons x r ih =>
      intro l
      rw [List.foldl_cons, ih, mem_addT, List.mem_cons]
      exact or_assoc
  have := h xs []
  simpa [metT] using this
theorem metT_nodup (xs : List Str) : (metT xs).Nodup := by
  have h : ∀ (xs l : List Str), l.Nodup → (xs.foldl addT l).Nodup := fun xs => by
    induction xs with
    | nil => intro l h; exact h
    | cons x r ih =>
      intro l h
      refine ih _ ?_
      unfold addT
      split
      · exact h
      · rename_i hx
        exact List.nodup_cons.mpr ⟨hx, h⟩
  exact h xs [] List.nodup_nil
theorem sortT_same {xs ys : List Str} (h : ∀ z, z ∈ xs ↔ z ∈ ys) : sortT (metT xs) = sortT (metT ys) := by
  have p : (metT xs).Perm (metT ys) := (List.perm_ext_iff_of_nodup (metT_nodup xs) (metT_nodup ys)).mpr fun z => by rw [mem_metT, mem_metT, h]
  exact sort_one (List.pairwise_mergeSort leS_trans leS_total _) (List.pairwise_mergeSort leS_trans leS_total _) ((List.mergeSort_perm _ _).trans (p.trans (List.mergeSort_perm _ _).symm))
theorem perm_of_in : ∀ {l m : List Str}, l.Nodup → (∀ x ∈ l, x ∈ m) → m.length ≤ l.length → l.Perm m
  | [], m, _, _, hl => by
    have : m = [] := List.length_eq_zero_iff.mp (by simpa using hl)
    rw [this]
  | x :: l, m, nd, sub, hl => by
    obtain ⟨n1, n2⟩ := List.nodup_cons.mp nd
    have hx := sub x List.mem_cons_self
    have p := List.perm_cons_erase hx
    have hlen := p.length_eq
    rw [List.length_cons] at hlen hl
    refine (List.Perm.cons x (perm_of_in n2 (fun y hy => ?_) (by omega))).trans p.symm
    have hne : y ≠ x := fun e => n1 (e ▸ hy)
    exact (List.mem_erase_of_ne hne).mpr (sub y (List.mem_cons_of_mem _ hy))
def SetX (P : Program) (w : World) (a : Addr) (l : List Str) : HO := .ext fun h => TxSet P w h a l
theorem setX_new {P : Program} {w : World} {H : Hp} {h : Heap} {a : Addr} {l : List Str} (R : TxSet P w h a l) : ObjOk P w H h a (SetX P w a l) := by
  have ⟨D, ho, _⟩ := R
  exact ⟨R, ⟨_, ho⟩, fun h1 h2 p k => TxSet.at_ p k⟩
section
variable {X : Cx}
theorem setX_get {pins : List (Addr × Obj)} {σ : L2.St} {H : Hp} {s : Shared} {a : Addr} {l : List Str} (I : Inv X pins σ H s) (ha : H a = some (SetX X.prog X.w a l)) : TxSet X.prog X.w s.heap a l := (I.hok a _ ha).1
def rSetX (P : Program) (w : World) (K : PySem.W.Frag) : List V → Hp → VK → Prop := fun xs H Q => ∃ (p : Addr) (ts : List Str), xs = [.ref p] ∧ (SqL K H p (ts.map V.str) ∨ SqT K H p (ts.map V.str)) ∧ ts.length + 1 < scanBound ∧ ∀ q, H q = none → Q (.ref q) (upd H q (SetX P w q (metT ts)))
theorem cr_setX (hc : X.calm = true) : CallR X (.type "set") (rSetX X.prog X.w X.K) := by
  intro pins s σ H xs us Q I r h
  obtain ⟨p, ts, rfl, hs, hb, q⟩ := h
  rw [Vals.ref1 r]
  have fin : ∀ (h2 : Heap) (tk : Nat), TxSet X.prog X.w h2 s.heap.objs.size (metT ts) → (∀ b o, s.heap.get? b = some o → h2.get? b = some o) → EP X pins σ Q (.ref s.heap.objs.size) { s with heap := h2, toks := tk } := fun h2 tk R k =>
    ⟨.ref _, upd H s.heap.objs.size (SetX X.prog X.w s.heap.objs.size (metT ts)), I.laid (t' := tk) k (Nat.le_refl _) (setX_new R), rfl, q _ (I.hok.fresh (Nat.le_refl _))⟩
  rcases hs with hs | hs
  · obtain ⟨its, rv, hl, _⟩ := I.list hs
    exact set_of_list ts (I.ok.hd hc) hl.isList (by simpa using strsAre_of rv) hb fin
  · obtain ⟨its, rv, hl, _⟩ := I.tuple hs
    exact set_of_tuple ts (I.ok.hd hc) (show s.heap.IsTuple p its.toArray from hl) (by simpa using strsAre_of rv) hb fin
def rSortX (P : Program) (w : World) : List V → Hp → VK → Prop := fun xs H Q => ∃ (a : Addr) (l : List Str), xs = [.ref a] ∧ H a = some (SetX P w a l) ∧ ∀ p, H p = none → Q (.ref p) (upd H p (.lst ((sortT l).map V.str)))
theorem cr_sortX (hc : X.calm = true) : CallR X (.builtin "sorted") (rSortX X.prog X.w) := by
  intro pins s σ H xs us Q I r h
  obtain ⟨a, l, rfl, ha, q⟩ := h
  rw [Vals.ref1 r]
  obtain ⟨D, ho, F, r1, hled, nd, hb⟩ := setX_get I ha
  have hz : D.1.size = l.length := F.sz
  have hh : X.A.handled = none := I.ok.hd hc
  have hsb : scanBound = 4096 := rfl
  have hln : sizeLine = 16777216 := rfl
  refine Calls.call_function_entry kind_sorted plain_sorted entry_sorted (args_sorted1 _) ?_
  unfold Builtin.«sorted»
  refine wpAny_bind (m := checkCount "sorted" 1 1 _) (wpAny_pure ?_)
  refine wpAny_bind (collect_set (A := X.A.in1) hh ⟨_, ho, rfl, rfl⟩ F.fit (by show D.1.size < _; omega) r1 hled fun s1 vs k1 z1 g1 o1 pm => ?_)
  have hvl : vs.length = l.length := by rw [pm.length_eq, List.length_map, Array.length_toList]; exact hz
  -- what the entries tell: the texts, each once
  have ent : ∀ v ∈ vs, ∃ k t, v = Value.str k t ∧ k ∈ l := fun v hv => by
    obtain ⟨e, he, q⟩ := List.mem_map.mp (pm.mem_iff.mp hv)
    obtain ⟨⟨k, hk, _⟩, _⟩ := F.el e he
    rw [q] at hk
    have hv2 : ∃ t, v = Value.str k t := by
      have hk : Value.isStrOf k v = true := hk
      cases v <;> simp [Value.isStrOf] at hk
      exact ⟨_, by rw [hk]⟩
    obtain ⟨t, ht⟩ := hv2
    exact ⟨k, t, ht, (F.mem k).mpr ⟨e, he, by rw [q, ht]; exact is_str k t⟩⟩
  have hS : StrsAre vs (vs.map strOf) := strsAre_map vs fun v hv => by
    obtain ⟨k, t, e, _⟩ := ent v hv
    exact ⟨k, t, e⟩
  have pl : l.Perm (vs.map strOf) := perm_of_in nd (fun k hk => by
    obtain ⟨e, he, q⟩ := (F.mem k).mp hk
    have hv : e.2 ∈ vs := pm.mem_iff.mpr (List.mem_map_of_mem he)
    obtain ⟨k2, t, e2, _⟩ := ent _ hv
    have : (strKind X.prog X.w).is k2 e.2 = true := by rw [e2]; exact is_str k2 t
    have hkk : k = k2 := (strKind X.prog X.w).inj e.2 k k2 q this
    refine List.mem_map.mpr ⟨e.2, hv, ?_⟩
    rw [e2, hkk]
    rfl) (by rw [List.length_map, hvl]; omega)
  refine wpAny_bind (wpAny_newList ?_ (by rw [hvl]; omega))
  have at1 : (s1.heap.push (seqObj "list" vs.toArray 0)).get? s1.heap.objs.size = some (seqObj "list" vs.toArray 0) := Heap.get?_push_size _ rfl
  refine wpAny_bind (wpAny_holding (wpAny_call_entry slot_list_sort ⟨_, at1, rfl⟩ entry_list_sort (list_sort_treeKAny strKind_oneLt at1 hS.keysOf (fun v1 v2 rest e => keyKind_strs (by rw [← e]; exact hS)) (by rw [hvl]; omega) fun st2 hp hs => ⟨_, rfl, ?_⟩) (args_list_sort _)))
  obtain ⟨ss2, h1, h2, h3⟩ := sorted_out_str hS hp hs
  obtain ⟨c, hc2⟩ := sortedHeap_at (vs := vs) (out := (arrOf st2).map (·.2)) at1
  have e2 : ss2 = sortT l := sortT_of h3 (h2.trans pl.symm)
  have keep : ∀ b u, s.heap.get? b = some u → (sortedHeap (s1.heap.push (seqObj "list" vs.toArray 0)) s1.heap.objs.size vs ((arrOf st2).map (·.2))).get? b = some u := fun b u e => by
    have q := k1 b u e
    have hlt := Heap.lt_size q
    rw [sortedHeap_old (Nat.ne_of_lt hlt) (by rw [Heap.size_push]; exact Nat.lt_succ_of_lt hlt)]
    exact Heap.get?_push_of_some _ q
  refine wpAny_pure ⟨_, rfl, ?_⟩
  have hn : H s1.heap.objs.size = none := I.hok.fresh z1
  have hlen : ((sortT l).map V.str).length ≤ sizeLine := by rw [List.length_map, ← e2, h2.length_eq, List.length_map, hvl]; omega
  have J : Inv X pins σ (upd H s1.heap.objs.size (.lst ((sortT l).map V.str))) { s with heap := sortedHeap (s1.heap.push (seqObj "list" vs.toArray 0)) s1.heap.objs.size vs ((arrOf st2).map (·.2)), gens := s1.gens, drawn := s1.drawn, toks := s1.toks } :=
    I.call (ch := []) (Un.laid keep z1 hn) (I.hok.laid keep z1 ⟨hlen, ((arrOf st2).map (·.2)).toList, c, by rw [← e2]; exact vals_of_strs h1, hc2⟩) (by rw [g1]; exact I.bare) (fun _ z => nomatch z)
  obtain ⟨hp1, gn1, dr1, tk1, os1⟩ := s1
  have o1 : os1 = s.os := o1
  subst o1
  exact ⟨.ref hp1.objs.size, _, J, rfl, q _ hn⟩
end
end Ds
namespace Ds
open PySem PySem.Spec PyProof.Rows L2 Dn
theorem ext_tup (l : Addr) (us : Array Value) (n : Nat) (b : Addr) (vs : Array Value) (n2 : Nat) (dd : Option Addr) (sl : Array (Option Value)) (h0 : ¬(!us.isEmpty && Builtin.List.listTooLong (us.size + vs.size)) = true) (h1 : us.size ≤ sizeLine) (h2 : us.size + vs.size ≤ sizeLine + 1) :
    Meets (Builtin.«list.extend» ⟨[.ref l, .ref b], []⟩) (fun _ R s => s.heap.get? l = some { cls := .type "list", dict := none, data := .seq us n, slots := #[] } ∧ s.heap.get? b = some { cls := .type "tuple", dict := dd, data := .seq vs n2, slots := sl } ∧ R (.ok (.ret Value.none)) { s with heap := s.heap.update l (Obj.mapSeq fun x => x ++ vs), toks := s.toks }) :=
  .of_wp fun prog w A R s h => by
    obtain ⟨hp, g, d, tk, os⟩ := s; obtain ⟨k1, k2, k3⟩ := h; have f1 := AutoSeq1.idx_int; have f2 := AutoSeq1.sub_tuple_tuple; have f3 := AutoSeq1.sub_list_list; have f4 := AutoSeq1.sub_tuple_list; have f5 := AutoSeq1.sub_list_tuple
    have hz : (us ++ vs).size ≤ sizeLine + 1 := by rw [Array.size_append]; exact h2
    wp_walk using (wpAny_updateSeq k1 rfl (hz := h1) (_hz' := hz)), AutoSeq1.wpAny_loadPart' k1, AutoSeq1.wpAny_loadPart' k2
    exact ⟨_, rfl, k3⟩
theorem ext_lst (l : Addr) (us : Array Value) (n : Nat) (b : Addr) (vs : Array Value) (n2 : Nat) (dd : Option Addr) (sl : Array (Option Value)) (h0 : ¬(!us.isEmpty && Builtin.List.listTooLong (us.size + vs.size)) = true) (h1 : us.size ≤ sizeLine) (h2 : us.size + vs.size ≤ sizeLine + 1) :
    Meets (Builtin.«list.extend» ⟨[.ref l, .ref b], []⟩) (fun _ R s => s.heap.get? l = some { cls := .type "list", dict := none, data := .seq us n, slots := #[] } ∧ s.heap.get? b = some { cls := .type "list", dict := dd, data := .seq vs n2, slots := sl } ∧ R (.ok (.ret Value.none)) { s with heap := s.heap.update l (Obj.mapSeq fun x => x ++ vs), toks := s.toks }) :=
  .of_wp fun prog w A R s h => by
    obtain ⟨hp, g, d, tk, os⟩ := s; obtain ⟨k1, k2, k3⟩ := h; have f1 := AutoSeq1.idx_int; have f2 := AutoSeq1.sub_tuple_tuple; have f3 := AutoSeq1.sub_list_list; have f4 := AutoSeq1.sub_tuple_list; have f5 := AutoSeq1.sub_list_tuple
    have hz : (us ++ vs).size ≤ sizeLine + 1 := by rw [Array.size_append]; exact h2
    wp_walk using (wpAny_updateSeq k1 rfl (hz := h1) (_hz' := hz)), AutoSeq1.wpAny_loadPart' k1, AutoSeq1.wpAny_loadPart' k2
    exact ⟨_, rfl, k3⟩
section
variable {X : Cx}
def rExtA (K : PySem.W.Frag) : V → List V → Hp → VK → Prop := fun x vs H Q => ∃ l b xs zs, x = .ref l ∧ vs = [.ref b] ∧ H l = some (.lst xs) ∧ (SqL K H b zs ∨ SqT K H b zs) ∧ xs.length + zs.length ≤ sizeLine ∧ Q .non (upd H l (.lst (xs ++ zs)))
theorem mt_extA : MtM X "list.extend" (rExtA X.K) := by
  intro pins s σ H x vs v us Q I rx rv h
  obtain ⟨l, b, xs, zs, rfl, rfl, hH, hB, hz, q⟩ := h
  cases rx
  obtain ⟨u, rfl, ru⟩ := rv.one
  cases ru
  obtain ⟨z, its, n, r, hl, e⟩ := I.lstM hH
  have fin : ∀ (jts : List Value), Vals zs jts → EP X pins σ Q Value.none { s with heap := s.heap.update l (Obj.mapSeq fun x => x ++ jts.toArray), toks := s.toks } := fun jts r2 => by
    refine ⟨.non, _, I.lset (its' := its ++ jts) hH e (by simp) (r.append r2) ?_, rfl, q⟩
    rw [List.length_append]
    omega
  have len : ∀ (jts : List Value), Vals zs jts → its.toArray.size + jts.toArray.size ≤ sizeLine := fun jts r2 => by
    have := r2.length
    have := r.length
    rw [List.size_toArray, List.size_toArray]
    omega
  have lng : ∀ (jts : List Value), Vals zs jts → ¬ (!its.toArray.isEmpty && Builtin.List.listTooLong (its.toArray.size + jts.toArray.size)) = true := fun jts r2 => by
    rw [notLongL (len jts r2), Bool.and_false]
    exact Bool.false_ne_true
  rcases hB with hB | hB
  · obtain ⟨jts, r2, ⟨o2, n2, g2, c2, d2, t2⟩, _⟩ := I.list hB
    obtain ⟨oc, od, odt, osl⟩ := o2
    simp only at c2 d2 t2
    subst c2 d2 t2
    have hs := len jts r2
    exact call_meets PySem.F.slot_list_extend ⟨_, e, rfl⟩ PySem.F.entry_list_extend (PySem.F.args_list_extend_2 _ _) (ext_lst l its.toArray n b jts.toArray n2 _ _ (lng jts r2) (by omega) (by omega)) ⟨e, g2, fin jts r2⟩
  · obtain ⟨jts, r2, ⟨o2, g2, c2, n2, t2⟩, _⟩ := I.tuple hB
    obtain ⟨oc, od, odt, osl⟩ := o2
    simp only at c2 t2
    subst c2 t2
    have hs := len jts r2
    exact call_meets PySem.F.slot_list_extend ⟨_, e, rfl⟩ PySem.F.entry_list_extend (PySem.F.args_list_extend_2 _ _) (ext_tup l its.toArray n b jts.toArray n2 _ _ (lng jts r2) (by omega) (by omega)) ⟨e, g2, fin jts r2⟩
end
section
variable {X : Cx} {E : XQ} {o v e : Expr} {pos : Pos} {ml : M Nat} {mc : M Cl}
/-- y.extend(x) -/
def mExt (ml : M Nat) (mc : M Cl) : M Fl := mBind (mIsL ml) fun l => mBind mc fun c δ => match δ.s[l]?, (snap δ.s c).bind itemsD with
  | some (.lst xs), some ds => if xs.length + ds.length ≤ sizeLine then .ok .nx ⟨δ.e, δ.s.set l (.lst (xs ++ ds.map Cl.sh))⟩ else .bad
  | _, _ => .bad
theorem js_ext {apos cpos : Pos} (ho : PE X o (tOfL X.K E ml)) (he : PE X v (tOfC X.K E mc))
    {PE0 : PE X (.Call (.Attribute o "extend" apos) [v] [] cpos) (tBM X.K "list" (rExtA X.K) (tOfL X.K E ml) (tCons (tOfC X.K E mc) tNil))}
    (hs : swapsWith (.Call (.Attribute o "extend" apos) [v] [] cpos) none pos.line X.env = pure false := by rfl) : PS X (.Expr (.Call (.Attribute o "extend" apos) [v] [] cpos) pos) (tOfS X.K E (mExt ml mc)) :=
  pst_imp (ps_expr PE0 hs) fun B σ H ⟨G, g, δ, re, po⟩ => by
    show tBM _ _ _ _ _ _ _ _
    unfold tBM
    refine isLS re po fun q l g1 H1 δ1 e1 re1 r1 ht po1 => ⟨ht, ?_⟩
    refine tOfC.stepS re1 po1 fun w c g2 H2 δ2 e2 re2 r2 po2 => ?_
    split at po2
    · rename_i xs ds hx hd
      split at po2
      · rename_i hl
        obtain ⟨d, hd1, hd2⟩ := Option.bind_eq_some_iff.mp hd
        have ha' := e2.r _ _ r1
        obtain ⟨vs, h1, h2⟩ := re2.lstAt ha' hx
        obtain ⟨p, ys, e3, hq, t⟩ := snap_items re2 r2 hd1 hd2
        refine ⟨q, p, vs, ys, rfl, by rw [e3], h1, hq, by rw [h2.length, t.length]; exact hl, ?_⟩
        exact PostS.of po2 (re2.write hx rfl ha' (.lst (h2.append (rps_cr t))))
      · exact po2.elim
    · exact po2.elim
/-- sorted(set(x)), x some texts -/
def mTexts (f : List Str → D) (mc : M Cl) : M D := mBind mc fun c δ => match ((snap δ.s c).bind itemsD).bind toSs with
  | some ts => if ts.length + 1 < scanBound then .ok (f (metT ts)) δ else .bad
  | none => .bad
theorem texts_at {K : Frag} {G : Hp} {g : Gh} {H : Hp} {σ : L2.St} {δ : Sx} (re : RE K G g H σ δ) {w : V} {c : Cl} {ts : List Str} (r : CR K g w c) (h : ((snap δ.s c).bind itemsD).bind toSs = some ts) : ∃ p, w = .ref p ∧ (SqL K H p (ts.map V.str) ∨ SqT K H p (ts.map V.str)) := by
  obtain ⟨ds, h1, h2⟩ := Option.bind_eq_some_iff.mp h
  obtain ⟨d, h3, h4⟩ := Option.bind_eq_some_iff.mp h1
  obtain ⟨p, ys, e, hq, t⟩ := snap_items re r h3 h4
  have e1 := toSs_eq h2
  subst e1
  have e2 := t.strs
  subst e2
  exact ⟨p, e, hq⟩
theorem je_sortSet {p p2 q : Pos} (hc : X.calm = true) (hg : Gl X "sorted") (hm : X.mg "sorted" = none) (hv : bootBuiltins "sorted" = some (.builtin "sorted")) (hg2 : Gl X "set") (hm2 : X.mg "set" = none) (hv2 : bootBuiltins "set" = some (.type "set")) (he : PE X e (tOfC X.K E mc))
    (h1 : starEach [e] X.env = (false, eval e X.env) :: starEach [] X.env := by rfl) (hpl : (backTo q (starEach [] X.env)).any (·.1) = false := by rfl)
    (h2 : starEach [.Call (.Name "set" p2) [e] [] q] X.env = (false, eval (.Call (.Name "set" p2) [e] [] q) X.env) :: starEach [] X.env := by rfl) (hpl2 : (backTo pos (starEach [] X.env)).any (·.1) = false := by rfl) :
    PE X (.Call (.Name "sorted" p) [.Call (.Name "set" p2) [e] [] q] [] pos) (tOf X.K E (mTexts (fun l => .list ((sortT l).map PyData.str)) mc)) :=
  pe_imp (pe_callB (cr_sortX hc) hg hm hv (pa_cons (pe_callTy (cr_setX hc) hg2 hm2 hv2 (pa_cons he pa_nil h1) (by decide) (by decide) h1 hpl) pa_nil h2) (by decide) (by decide) h2 hpl2) fun σ H Q ⟨G, g, δ, re, po⟩ => tOfC.step re po fun w c g1 H1 δ1 e1 re1 r1 po1 => by
    split at po1
    · rename_i ts hts
      split at po1
      · rename_i hl
        obtain ⟨a, rfl, hq⟩ := texts_at re1 r1 hts
        refine ⟨a, ts, rfl, hq, hl, fun b hb => ⟨b, metT ts, rfl, upd_same, fun c hcn => ?_⟩⟩
        have re2 := re1.newH (ex_new (o := SetX X.prog X.w b (metT ts)) hb)
        exact Post.grow po1 re2 (Grw.new re2.ex hcn) _ (.lst (SqL.of upd_same) (Rps.of_strs _))
      · exact po1.elim
    · exact po1.elim
end
end Ds
namespace Ds
open PySem PySem.Spec PyProof.Rows L2 Dn
section
variable {X : Cx} {E : XQ} {a b e o : Expr} {pos : Pos} {m : M D}
theorem jc_var {i : Nat} {x : Str} (hN : X.N[i]? = some x) (hv : Vis X.env.scope x) (hd : (x == ("__debug__" : Str)) = false := by decide) (hcd : (x == ("__classdict__" : Str)) = false := by decide) : PE X (.Name x pos) (tOfC X.K E (mCl i)) :=
  pe_imp (pe_var hN hv hd hcd) fun σ H Q ⟨G, g, δ, re, po⟩ => by
    unfold mCl at po
    split at po
    · rename_i d hd
      obtain ⟨v, h1, h2⟩ := re.sl i _ hd (by simp)
      exact ⟨v, h1, po g H (Le.refl _) re v h2⟩
    · rename_i d hd
      obtain ⟨v, h1, h2⟩ := re.sl i _ hd (by simp)
      exact ⟨v, h1, po g H (Le.refl _) re v h2⟩
    · exact po.elim
inductive KKeys : List DictEntry → List Str → Prop where
  | nil : KKeys [] []
  | cons {e : DictEntry} {r : List DictEntry} {x : Str} {t : Tok} {ks : List Str} : e.key = .str x t → KKeys r ks → KKeys (e :: r) (x :: ks)
theorem KKeys.find {es : List DictEntry} {ks : List Str} (h : KKeys es ks) (z : Str) : (es.find? (·.key.isStr z)).isSome = ks.contains z ∧ es.any (·.refKey) = false := by
  induction h with
  | nil => exact ⟨rfl, rfl⟩
  | @cons e r x t ks he _ ih =>
    have k1 : e.key.isStr z = (x == z) := by rw [he]; rfl
    have k2 : e.refKey = false := by unfold DictEntry.refKey; rw [he]
    refine ⟨?_, by rw [List.any_cons, ih.2, k2]; rfl⟩
    rw [List.find?_cons, k1, List.contains_cons]
    by_cases h : x = z
    · subst h; simp
    · have h1 : (x == z) = false := by simpa using h
      have h2 : (z == x) = false := by simpa using fun q => h q.symm
      rw [h1, h2, Bool.false_or]
      exact ih.1
def mKIn (neg : Bool) (ks : List Str) (m : M D) : M D := mBind m fun e => mOpt ((toS e).map fun z => .bool (if neg then !ks.contains z else ks.contains z))
end
end Ds
namespace Ds
open PySem PySem.Spec PyProof.Rows L2 Dn
/-- what an iterator of its own draws, bs: where its things lie -/
structure Src (P : Program) (w : World) (K : Frag) (J : It) (it : Addr) (bs : List Addr) (own : Nat → Heap → Prop) : Prop where
  obj : ∀ i h, own i h → ∃ o, h.get? it = some o ∧ ∀ v, o.data ≠ .cell v
  keep : ∀ i h h', own i h → (∀ o, h.get? it = some o → h'.get? it = some o) → own i h'
  go : ∀ (X : Cx), X.prog = P → X.w = w → X.K = K → X.calm = true → ∀ (i : Nat) (pins : List (Addr × Obj)) (s : Shared) (σ : L2.St) (H : Hp), Inv X pins σ H s → own i s.heap → J.go i H →
    ∃ (n : Nat) (Pv : Nat → Value → Prop) (T : Nat → Heap → Prop), Draws P w X.A.in1 it (it :: bs) n Pv T ∧ T i s.heap ∧ i < n ∧ (∀ j h', T j h' → own j h') ∧ ∀ u, Pv i u → ∃ x, RelV x u ∧ J.yld i H x H
  stop : ∀ (X : Cx), X.prog = P → X.w = w → X.K = K → X.calm = true → ∀ (i : Nat) (pins : List (Addr × Obj)) (s : Shared) (σ : L2.St) (H : Hp), Inv X pins σ H s → own i s.heap → J.stop i H →
    ∃ (Pv : Nat → Value → Prop) (T : Nat → Heap → Prop), Draws P w X.A.in1 it (it :: bs) i Pv T ∧ T i s.heap
/-- a value begins such an iterator -/
def Sour (X : Cx) (s : Shared) (u : Value) (J : It) : Prop := ∃ (o : Obj) (Hh : Heap → Prop) (bs : List Addr) (own : Addr → Nat → Heap → Prop), Begins u o Hh ∧ Hh s.heap ∧ (∀ b ∈ bs, b < s.heap.objs.size) ∧
  (∀ it h, h.get? it = some o → own it 0 h) ∧ ∀ it, it ∉ bs → Src X.prog X.w X.K J it bs (own it)
theorem draws_end {P : Program} {w : World} {A : Around} {it : Addr} {fp : List Addr} {T : Heap → Prop} (i : Nat) (lv : ∀ h, T h → ∃ o, h.get? it = some o) (fr : ∀ h h', T h → (∀ b ∈ fp, ∀ o, h.get? b = some o → h'.get? b = some o) → T h')
    (dn : ∀ (s : Shared) (Q : Value → Shared → Prop) (E : Value → Shared → Prop), T s.heap → (∀ h' e, Heap.ExtBut it s.heap h' → (∃ o, h'.get? e = some o ∧ o.cls = .type "StopIteration") → E (.ref e) { s with heap := h' }) → wpAny (model P w) A (Builtin.SmallTypes.nextOf (.ref it)) Q E s) :
    Draws P w A it fp i (fun _ _ => True) (fun j h => j = i ∧ T h) where
  live := fun j h ⟨_, t⟩ => lv h t
  frame := fun j h h' ⟨e, t⟩ k => ⟨e, fr h h' t k⟩
  item := fun j s Q E hlt ⟨e, _⟩ _ => absurd hlt (by omega)
  done := fun s Q E ⟨_, t⟩ hE => dn s Q E t hE
theorem src_tuple {P : Program} {w : World} {K : Frag} {a it : Addr} (hn : a ≠ it) : Src P w K (Itt K a) it [a] (fun i h => h.IsTupleIter it a i) where
  obj := fun i h ⟨o, e, _, d⟩ => ⟨o, e, fun v q => by rw [d] at q; cases q⟩
  keep := fun i h h' t k => t.at k
  go := by
    intro X hP hw hK hc i pins s σ H I t hg
    subst hP hw hK
    obtain ⟨xs, x, hq, hx⟩ := hg
    obtain ⟨its, rv, p, _⟩ := I.tuple hq
    obtain ⟨u, hu, ru⟩ := rv.get hx
    have pt : s.heap.IsTuple a its.toArray := p
    have hlt := (List.getElem?_eq_some_iff.mp hu).1
    have hh : X.A.in1.handled = none := I.ok.hd hc
    have dr := Draws.tuple (prog := X.prog) (w := X.w) hh it a hn its.toArray
    refine ⟨_, _, _, dr, ⟨t, pt⟩, by simpa using hlt, fun j h' z => z.1, fun v hv => ⟨x, ?_, rfl, fun ys hy => by rw [I.tuple_inj hy hq]; exact hx⟩⟩
    have : its[i]? = some v := by simpa using hv
    rw [hu] at this
    rw [← Option.some.inj this]
    exact ru
  stop := by
    intro X hP hw hK hc i pins s σ H I t hg
    subst hP hw hK
    obtain ⟨xs, hq, hx⟩ := hg
    obtain ⟨its, rv, p, _⟩ := I.tuple hq
    have hl := rv.length
    have pt : s.heap.IsTuple a its.toArray := p
    refine ⟨_, _, draws_end (T := fun h => h.IsTupleIter it a i ∧ h.IsTuple a its.toArray) i (fun h z => let ⟨o, q, _⟩ := z.1; ⟨o, q⟩) (fun h h' z k => ⟨z.1.at fun o q => k it (by simp) o q, z.2.at fun o q => k a (by simp) o q⟩) fun s Q E z hE => ?_, rfl, t, pt⟩
    exact wpAny_nextOf_tuple_end (A := X.A.in1) (I.ok.hd hc) z.1 z.2 (by simp; omega) hE
theorem src_list {P : Program} {w : World} {K : Frag} {a it : Addr} (hn : a ≠ it) : Src P w K (Itl K a) it [a] (fun i h => h.IsListIter it a i) where
  obj := fun i h ⟨o, e, _, d⟩ => ⟨o, e, fun v q => by rw [d] at q; cases q⟩
  keep := fun i h h' t k => t.at k
  go := by
    intro X hP hw hK hc i pins s σ H I t hg
    subst hP hw hK
    obtain ⟨xs, x, hq, hx⟩ := hg
    obtain ⟨its, rv, p, _⟩ := I.list hq
    obtain ⟨u, hu, ru⟩ := rv.get hx
    have hlt := (List.getElem?_eq_some_iff.mp hu).1
    have hh : X.A.in1.handled = none := I.ok.hd hc
    have dr := Draws.list (prog := X.prog) (w := X.w) hh it a hn its.toArray
    refine ⟨_, _, _, dr, ⟨t, p.isList⟩, by simpa using hlt, fun j h' z => z.1, fun v hv => ⟨x, ?_, rfl, fun ys hy => by rw [I.list_inj hy hq]; exact hx⟩⟩
    have : its[i]? = some v := by simpa using hv
    rw [hu] at this
    rw [← Option.some.inj this]
    exact ru
  stop := by
    intro X hP hw hK hc i pins s σ H I t hg
    subst hP hw hK
    obtain ⟨xs, hq, hx⟩ := hg
    obtain ⟨its, rv, p, _⟩ := I.list hq
    have hl := rv.length
    refine ⟨_, _, draws_end (T := fun h => h.IsListIter it a i ∧ h.IsList a its.toArray) i (fun h z => let ⟨o, q, _⟩ := z.1; ⟨o, q⟩) (fun h h' z k => ⟨z.1.at fun o q => k it (by simp) o q, z.2.at fun o q => k a (by simp) o q⟩) fun s Q E z hE => ?_, rfl, t, p.isList⟩
    exact wpAny_nextOf_list_end (A := X.A.in1) (I.ok.hd hc) z.1 z.2 (by simp; omega) hE
theorem text_end {P : Program} {w : World} {A : Around} (hh : A.handled = none) (it : Addr) (x : Str) (t : Tok) {i : Nat} (hi : x.cps.size ≤ i) (s : Shared) (Q : Value → Shared → Prop) (E : Value → Shared → Prop) (z : s.heap.IsStrIter it (strIterType x) x t i)
    (hE : ∀ h' e, Heap.ExtBut it s.heap h' → (∃ o, h'.get? e = some o ∧ o.cls = .type "StopIteration") → E (.ref e) { s with heap := h' }) : wpAny (model P w) A (Builtin.SmallTypes.nextOf (.ref it)) Q E s := by
  have hx : x.cps[i]? = none := by simp [hi]
  unfold strIterType at z
  split at z
  · exact wpAny_nextOf_ascii_end hh z hx hE
  · exact wpAny_nextOf_wide_end hh z hx hE
theorem src_text {P : Program} {w : World} {K : Frag} {it : Addr} (x : Str) (t : Tok) : Src P w K (Its x) it [] (fun i h => h.IsStrIter it (strIterType x) x t i) where
  obj := fun i h ⟨o, e, _, d⟩ => ⟨o, e, fun v q => by rw [d] at q; cases q⟩
  keep := fun i h h' ⟨o, e, r⟩ k => ⟨o, k o e, r⟩
  go := by
    intro X hP hw hK hc i pins s σ H I z hg
    subst hP hw hK
    have hg : i < x.cps.size := hg
    have hh : X.A.in1.handled = none := I.ok.hd hc
    have dr := Draws.text (prog := X.prog) (w := X.w) hh it x t
    exact ⟨_, _, _, dr, z, hg, fun j h' q => q, fun v ⟨c, u, h1, h2⟩ => ⟨.str ⟨#[c]⟩, ⟨u, h2⟩, rfl, c, h1, rfl⟩⟩
  stop := by
    intro X hP hw hK hc i pins s σ H I z hg
    subst hP hw hK
    refine ⟨_, _, draws_end (T := fun h => h.IsStrIter it (strIterType x) x t i) i (fun h ⟨o, q, _⟩ => ⟨o, q⟩) (fun h h' ⟨o, e, r⟩ k => ⟨o, k it (by simp) o e, r⟩) fun s Q E q hE => ?_, rfl, z⟩
    exact text_end (A := X.A.in1) (I.ok.hd hc) it x t hg s Q E q hE
section
variable {X : Cx} {pins : List (Addr × Obj)} {s : Shared} {σ : L2.St} {H : Hp}
theorem sour_tuple {a : Addr} {xs : List V} (I : Inv X pins σ H s) (h : SqT X.K H a xs) : Sour X s (.ref a) (Itt X.K a) := by
  obtain ⟨its, rv, p, _⟩ := I.tuple h
  have pt : s.heap.IsTuple a its.toArray := p
  obtain ⟨o, e, _⟩ := p
  exact ⟨_, _, [a], fun it i h => h.IsTupleIter it a i, begins_tuple a its.toArray, pt, fun b hb => by simp at hb; rw [hb]; exact Heap.lt_size e, fun it h q => ⟨_, q, rfl, rfl⟩, fun it hn => src_tuple fun z => hn (by simp [z])⟩
theorem sour_list {a : Addr} {xs : List V} (I : Inv X pins σ H s) (h : SqL X.K H a xs) : Sour X s (.ref a) (Itl X.K a) := by
  obtain ⟨its, rv, p, _⟩ := I.list h
  obtain ⟨o, n, e, _⟩ := id p
  exact ⟨_, _, [a], fun it i h => h.IsListIter it a i, begins_list a its.toArray, p.isList, fun b hb => by simp at hb; rw [hb]; exact Heap.lt_size e, fun it h q => ⟨_, q, rfl, rfl⟩, fun it hn => src_list fun z => hn (by simp [z])⟩
theorem sour_text {x : Str} {t : Tok} : Sour X s (.str x t) (Its x) :=
  ⟨_, _, [], fun it i h => h.IsStrIter it (strIterType x) x t i, begins_text x t, trivial, fun b hb => by simp at hb, fun it h q => ⟨_, q, rfl, rfl⟩, fun it _ => src_text x t⟩
end
/-- .. each with its number, in new pairs -/
def ItE (J : It) : It := ⟨J.go, fun i H v H' => ∃ T x, v = .ref T ∧ H T = none ∧ H' = upd H T (.tup [.int (i : Nat), x]) ∧ J.yld i H x H, J.stop⟩
theorem turn_enumS {P : Program} {w : World} {K : Frag} {elts : List Expr} {kk : Nat} {tpos : Pos} {J : It} {e it : Addr} {bs : List Addr} {own : Nat → Heap → Prop} (S : Src P w K J it bs own) (hb : e ∉ it :: bs) :
    Turn P w K (.Tuple elts kk tpos) (ItE J) [e, it] e (fun i h => (∃ old, IsEnum h e it ((i : Nat) : Int) old) ∧ own i h) where
  mem := by simp
  obj := fun i h ⟨⟨old, he⟩, ho⟩ b hm => by
    rcases List.mem_cons.mp hm with z | z
    · rw [z]; exact ⟨_, he, fun v q => nomatch q⟩
    · simp at z; rw [z]; exact S.obj i h ho
  keep := fun i h h' ⟨⟨old, he⟩, ho⟩ k => ⟨⟨old, k e (by simp) _ he⟩, S.keep i h h' ho fun o q => k it (by simp) o q⟩
  item := by
    intro X hP hw hK hc i pins s σ H E I hf ⟨⟨old, he⟩, ho⟩ hg
    have hne : e ≠ it := fun z => hb (by simp [z])
    obtain ⟨n, Pv, T, D, hT, hlt, back, yl⟩ := S.go X hP hw hK hc i pins s σ H I ho hg
    have hel : e < s.heap.objs.size := Heap.lt_size he
    have hil : it < s.heap.objs.size := by obtain ⟨_, q, _⟩ := S.obj _ _ ho; exact Heap.lt_size q
    refine wpAny_pyNext_enum_itemD D he hT hlt hne hb fun u h1 tk pu out hT1 new1 sz1 k1 => ⟨_, rfl, ?_⟩
    obtain ⟨x, rx, yx⟩ := yl u pu
    refine wpAny_letOwnedTupleGo_enum (s := { s with heap := h1, toks := tk + 1 }) out fun h2 he2 sb => ?_
    have new2 : h2.get? s.heap.objs.size = some { cls := .type "tuple", data := .seq #[.int i tk, u] } := (sb.2 _ (Nat.ne_of_gt hel)).trans new1
    have ok : ObjOk X.prog X.w (upd H s.heap.objs.size (.tup [.int (i : Nat), x])) h2 s.heap.objs.size (.tup [.int (i : Nat), x]) :=
      ⟨Nat.le_of_ble_eq_true rfl, [.int i tk, u], .cons ⟨_, rfl⟩ (.cons rx .nil), ⟨_, new2, rfl, _, rfl⟩⟩
    have I1 : Inv X pins σ (upd H s.heap.objs.size (.tup [.int (i : Nat), x])) { s with heap := h2, toks := tk + 1 } := by
      refine I.turnedNew (ch := [e, it]) (fun b ob hm q => ?_) hf (Nat.le_refl _) ok
      have b1 : b ≠ e := fun z => hm (by simp [z])
      have b2 : b ≠ it := fun z => hm (by simp [z])
      exact (sb.2 b b1).trans (k1 b ob b1 b2 q)
    refine ⟨.ref s.heap.objs.size, _, I1, rfl, ⟨_, x, rfl, I.hok.fresh (Nat.le_refl _), rfl, yx⟩, ⟨⟨u, ?_⟩, ?_⟩, fun b hm => ?_⟩
    · have e1 : ((i + 1 : Nat) : Int) = (i : Int) + 1 := by omega
      rw [e1]; exact he2
    · exact S.keep _ _ _ (back _ _ hT1) fun o q => (sb.2 it hne.symm).trans q
    · have hlb : b < s.heap.objs.size := by
        rcases List.mem_cons.mp hm with z | z
        · rw [z]; exact hel
        · simp at z; rw [z]; exact hil
      rw [upd_ne (Nat.ne_of_lt hlb)]
      exact (hf b hm).1
  done := by
    intro X hP hw hK hc i pins s σ H E I hf ⟨⟨old, he⟩, ho⟩ hg
    obtain ⟨Pv, T, D, hT⟩ := S.stop X hP hw hK hc i pins s σ H I ho hg
    refine wpAny_pyNext_enum_endD D he hT fun h1 eb => ⟨rfl, ?_⟩
    exact I.turnedL (t' := s.toks) (ch := [e, it]) (fun b o hm q => eb b o (fun z => hm (by simp [z])) q) hf
  self := fun A i s Q E ⟨⟨_, he⟩, _⟩ h => wpAny_pyIter_enum he h
end Ds
namespace Ds
open PySem PySem.Spec PyProof.Rows L2 Dn
theorem meets_enB {v : Value} {o : Obj} {Hh : Heap → Prop} (B : Begins v o Hh) :
    Meets (Builtin.«enumerate.__new__» ⟨[.type "enumerate", v], []⟩) (fun _ R sh => Hh sh.heap ∧
      R (.ok (.ret (.ref (sh.heap.push o).objs.size))) { sh with heap := (sh.heap.push o).push { cls := .type "enumerate", data := .fields #[.none, .bool false, .ref sh.heap.objs.size, rawInt 0, .none, .none] } }) :=
  .of_wp fun prog w A R sh h => by
    obtain ⟨hp, gs, dr, tk, sy⟩ := sh
    obtain ⟨b1, h⟩ := h
    have hs := sub_enumerate
    have beg : ∀ {A' : Around} {E : Value → Shared → Prop} {Q : Value → Shared → Prop}, Q (.ref hp.objs.size) ⟨hp.push o, gs, dr, tk, sy⟩ → wpAny (model prog w) A' (pyIter v) Q E ⟨hp, gs, dr, tk, sy⟩ :=
      fun q => B.iter prog w _ _ ⟨hp, gs, dr, tk, sy⟩ _ b1 q
    wp_walk using beg
    refine wpAny_stack_any fun stk => wpAny_pure ?_
    split
    · rename_i c _ _ _ _ _
      cases (c == Value.type "enumerate")
      · wp_walk using beg
        exact ⟨_, rfl, h⟩
      · wp_walk using beg
        exact ⟨_, rfl, h⟩
    · wp_walk using beg
      exact ⟨_, rfl, h⟩
theorem call_enB {prog : Program} {w : World} {A : Around} {E : Value → Shared → Prop} {sh : Shared} {v : Value} {o : Obj} {Hh : Heap → Prop} {Q : Value → Shared → Prop} (B : Begins v o Hh) (b1 : Hh sh.heap)
    (h : ∀ h1, IsEnum h1 (sh.heap.objs.size + 1) sh.heap.objs.size 0 .none → h1.get? sh.heap.objs.size = some o → (∀ b ob, sh.heap.get? b = some ob → h1.get? b = some ob) → Q (.ref (sh.heap.objs.size + 1)) { sh with heap := h1 }) :
    wpAny (model prog w) A (call (.type "enumerate") [v]) Q E sh := by
  refine callType_new F.called_enumerate (by decide) (F.typeCall_enumerate_1 _) (F.newCall_enumerate_1 _) (fun ob => F.args_object_init_2 ob _) F.entry_enumerate_new (meets_enB B) ⟨b1, ?_⟩
  have z1 : (sh.heap.push o).objs.size = sh.heap.objs.size + 1 := Heap.size_push ..
  show _ ∧ _
  rw [z1]
  have en : IsEnum ((sh.heap.push o).push { cls := .type "enumerate", data := .fields #[.none, .bool false, .ref sh.heap.objs.size, rawInt 0, .none, .none] }) (sh.heap.objs.size + 1) sh.heap.objs.size 0 .none := by
    have q := Heap.get?_push_size (sh.heap.push o) (o := { cls := .type "enumerate", data := .fields #[.none, .bool false, .ref sh.heap.objs.size, rawInt 0, .none, .none] }) rfl
    rw [z1] at q
    exact q
  exact ⟨⟨_, en, rfl⟩, h _ en (Heap.get?_push_of_some _ (Heap.get?_push_size _ B.free)) fun b ob q => Heap.get?_push_of_some _ (Heap.get?_push_of_some _ q)⟩
/-- a list, a tuple, a text, and how it is walked -/
def SrcV (K : Frag) (H : Hp) (x : V) (J : It) : Prop := (∃ a xs, x = .ref a ∧ SqT K H a xs ∧ J = Itt K a) ∨ (∃ a xs, x = .ref a ∧ SqL K H a xs ∧ J = Itl K a) ∨ ∃ z, x = .str z ∧ J = Its z
section
variable {X : Cx}
theorem SrcV.sour {pins : List (Addr × Obj)} {s : Shared} {σ : L2.St} {H : Hp} {x : V} {u : Value} {J : It} (h : SrcV X.K H x J) (I : Inv X pins σ H s) (r : RelV x u) : Sour X s u J := by
  rcases h with ⟨a, xs, rfl, q, rfl⟩ | ⟨a, xs, rfl, q, rfl⟩ | ⟨z, rfl, rfl⟩
  · obtain rfl : u = .ref a := r
    exact sour_tuple I q
  · obtain rfl : u = .ref a := r
    exact sour_list I q
  · obtain ⟨t, rfl⟩ := r
    exact sour_text
def iEnS (K : Frag) (ta : TA) : TI := fun σ H R => ta σ H fun vs H1 => ∃ x J, vs = [x] ∧ SrcV K H1 x J ∧ R (ItE J) H1
theorem pi_enS {e : Expr} {ta : TA} {p pos tpos : Pos} {elts : List Expr} {kk : Nat} (hg : Gl X "enumerate") (hm : X.mg "enumerate" = none) (ha : PA X [e] ta) (hs : starEach [e] X.env = [(false, eval e X.env)] := by rfl) :
    PI X (.Tuple elts kk tpos) (.Call (.Name "enumerate" p) [e] [] pos) (iEnS X.K ta) := by
  constructor
  intro pins s σ H R I h
  refine Call_ (ld_blt I hg hm boot_enumerate (PyProof.Rows.callWith_type1 (thn (ha.run pos pins s σ H _ I h) ?_) hs rfl))
  rintro us s1 ⟨vs, H1, I1, r1, x, J, ex, hv, q⟩
  subst ex
  cases r1 with
  | cons r rr =>
    cases rr
    obtain ⟨o, Hh, bs, own, B, b1, lo, o0, S⟩ := hv.sour I1 r
    refine call_enB B b1 fun h1 en ho k1 => wpAny_pyIter_enum en ?_
    have I2 : Inv X pins σ H1 { s1 with heap := h1 } := I1.kept (t' := s1.toks) k1
    have n1 : s1.heap.objs.size ∉ bs := fun hm => absurd (lo _ hm) (Nat.lt_irrefl _)
    have n2 : s1.heap.objs.size + 1 ∉ s1.heap.objs.size :: bs := fun hm => by
      rcases List.mem_cons.mp hm with z | z
      · exact Nat.succ_ne_self _ z
      · exact Nat.not_succ_lt_self (lo _ z)
    refine ⟨s1.heap.objs.size + 1, [s1.heap.objs.size + 1, s1.heap.objs.size], _, _, H1, rfl, I2, turn_enumS (S _ n1) n2, ⟨⟨.none, en⟩, o0 _ _ ho⟩, fun b hb => ?_, q⟩
    have le : s1.heap.objs.size ≤ b := by
      rcases List.mem_cons.mp hb with z | z
      · rw [z]; exact Nat.le_add_right _ _
      · simp at z; rw [z]; exact Nat.le_refl _
    exact I1.fpOk le (I1.hok.fresh le)
end
end Ds
namespace Ds
open PySem PySem.Spec PyProof.Rows L2 Dn
def enumD (ds : List D) : List D := ds.zipIdx.map fun p => .tuple [.int (p.2 : Nat), p.1]
def zipD (ds es : List D) : List D := List.zipWith (fun d e => .tuple [d, e]) ds es
theorem enumD_at {ds : List D} {i : Nat} : (enumD ds)[i]? = (ds[i]?).map fun d => .tuple [.int (i : Nat), d] := by
  unfold enumD
  rw [List.getElem?_map, List.getElem?_zipIdx]
  cases ds[i]? with
  | none => rfl
  | some d => simp
/-- walking changes nothing -/
def Still (J : It) : Prop := ∀ i H x H', J.yld i H x H' → H' = H
theorem still_tup {K : Frag} {a : Addr} : Still (Itt K a) := fun _ _ _ _ h => h.1
theorem still_lst {K : Frag} {a : Addr} : Still (Itl K a) := fun _ _ _ _ h => h.1
theorem still_str {z : Str} : Still (Its z) := fun _ _ _ _ h => h.1
theorem it_enum {K : Frag} {Hs : Hp} {J : It} {ds : List D} (h : Dn.ItOk K Hs J ds) : Dn.ItOk K Hs (ItE J) (enumD ds) := fun Hs1 H1 e1 e2 i => by
  obtain ⟨h1, h2⟩ := h Hs1 H1 e1 e2 i
  rw [enumD_at]
  refine ⟨fun d hd => ?_, fun hn => h2 (by simpa using hn)⟩
  obtain ⟨d0, q0, rfl⟩ := Option.map_eq_some_iff.mp hd
  obtain ⟨g1, g2⟩ := h1 d0 q0
  refine ⟨g1, fun x H2 ⟨T, y, ex, hT, eH, yl⟩ => ?_⟩
  subst ex; subst eH
  obtain ⟨Hs2, gr, rp⟩ := g2 y H1 yl
  have nw := Gr.new (o := .tup [.int (i : Nat), y]) gr.i hT
  exact ⟨_, gr.trans nw, .tup (StT.of upd_same) (.cons (.int _) (.cons (rp.ex nw.s) .nil))⟩
/-- a datum and how it is walked -/
theorem src_of {K : Frag} {Hs H : Hp} {v : V} {d : D} {ds : List D} (r : Rp K Hs v d) (h : dItems d = some ds) (e : Ex Hs H) : ∃ J, SrcV K H v J ∧ Dn.ItOk K Hs J ds ∧ Still J := by
  cases r with
  | lst q t =>
    obtain rfl := Option.some.inj h
    exact ⟨_, .inr (.inl ⟨_, _, rfl, sqL_ex e q, rfl⟩), it_list q t, still_lst⟩
  | tup q t =>
    obtain rfl := Option.some.inj h
    exact ⟨_, .inl ⟨_, _, rfl, sqT_ex e q, rfl⟩, it_tup q t, still_tup⟩
  | str z =>
    obtain rfl := Option.some.inj h
    exact ⟨_, .inr (.inr ⟨z, rfl, rfl⟩), it_str, still_str⟩
  | _ => simp [dItems] at h
section
variable {X : Cx} {E : XQ} {tg e : Expr} {pos : Pos} {m : M D}
def mEnum (m : M D) : M (List D) := mBind m fun d => mOpt ((dItems d).map enumD)
theorem ji_enum {p tpos : Pos} {elts : List Expr} {kk : Nat} (hg : Gl X "enumerate") (hm : X.mg "enumerate" = none) (h : PE X e (tOf X.K E m)) (hs : starEach [e] X.env = [(false, eval e X.env)] := by rfl) :
    PI X (.Tuple elts kk tpos) (.Call (.Name "enumerate" p) [e] [] pos) (tOfI X.K E (mEnum m)) :=
  pi_imp (pi_enS hg hm (pa_cons h pa_nil hs) hs) fun σ H R ⟨G, g, δ, re, po⟩ => tOf.step re po fun v d g1 H1 δ1 e1 re1 r1 po1 => by
    obtain ⟨ds, hd, po2⟩ := Post.opt po1
    obtain ⟨ds0, h0, rfl⟩ := Option.map_eq_some_iff.mp hd
    obtain ⟨J, hv, ok, _⟩ := src_of r1 h0 re1.ex
    exact ⟨v, J, rfl, hv, Post.of po2 re1 _ (.of (it_enum ok))⟩
def mZip (ma mb : M D) : M (List D) := mBind ma fun d => mBind mb fun e => mOpt ((dItems d).bind fun ds => (dItems e).map (zipD ds))
/-- lo, lo + c, .. -/
def stepD (lo c : Int) (n : Nat) : List D := (List.range n).map fun (k : Nat) => PyData.int (lo + (k : Nat) * c)
theorem it_step {K : Frag} {Hs : Hp} {lo c : Int} {n : Nat} : Dn.ItOk K Hs (Itc lo c n) (stepD lo c n) := fun Hs1 H1 e1 e2 i => by
  unfold stepD
  rw [List.getElem?_map]
  by_cases hi : i < n
  · rw [List.getElem?_range hi]
    refine ⟨fun d hd => ?_, fun hn => (nomatch hn)⟩
    obtain rfl := Option.some.inj hd
    refine ⟨hi, fun x H2 ⟨hH, hx⟩ => ?_⟩
    subst hH; subst hx
    exact ⟨Hs1, .refl e2, .int _⟩
  · rw [List.getElem?_eq_none (by simp; omega)]
    exact ⟨fun d hd => (nomatch hd), fun _ => Nat.not_lt.mp hi⟩
def okStep (i j c : Int) : Bool := decide (c ≠ 0) && (decide (c.natAbs < 1073741824) && (Builtin.Range.small i j c && decide (0 ≤ Builtin.Range.rangeSize i j c)))
def bRng3 : D → D → D → Option (List D)
  | .int i, .int j, .int c => if okStep i j c = true then some (stepD i c (Builtin.Range.rangeSize i j c).toNat) else none
  | _, _, _ => none
def mRng3 (ma mb mc : M D) : M (List D) := mBind ma fun d => mBind mb fun e => mBind mc fun c => mOpt (bRng3 d e c)
theorem ji_range3 {a b c : Expr} {p : Pos} {ma mb mc : M D} (hg : Gl X "range") (hm : X.mg "range" = none) (ha : PE X a (tOf X.K E ma)) (hb : PE X b (tOf X.K E mb)) (hc : PE X c (tOf X.K E mc))
    (hs : starEach [a, b, c] X.env = [(false, eval a X.env), (false, eval b X.env), (false, eval c X.env)] := by rfl) (hs2 : starEach [b, c] X.env = [(false, eval b X.env), (false, eval c X.env)] := by rfl) (hs3 : starEach [c] X.env = [(false, eval c X.env)] := by rfl) :
    PI X tg (.Call (.Name "range" p) [a, b, c] [] pos) (tOfI X.K E (mRng3 ma mb mc)) :=
  pi_imp (pi_range3 hg hm (pa_cons ha (pa_cons hb (pa_cons hc pa_nil hs3) (by rw [hs2, hs3])) (by rw [hs, hs2])) (by rw [hs, hs2]) (by rw [hs2]; rfl)) fun σ H R ⟨G, g, δ, re, po⟩ => tOf.step re po fun v d g1 H1 δ1 e1 re1 r1 po1 => tOf.step re1 po1 fun w c g2 H2 δ2 e2 re2 r2 po2 => tOf.step re2 po2 fun y k g3 H3 δ3 e3 re3 r3 po3 => by
    obtain ⟨ds, hd, po4⟩ := Post.opt po3
    cases r1 with
    | int i =>
      cases r2 with
      | int j =>
        cases r3 with
        | int l =>
          simp only [bRng3, Option.ite_none_right_eq_some, Option.some.injEq] at hd
          obtain ⟨h1, hd⟩ := hd
          subst hd
          unfold okStep at h1
          rw [Bool.and_eq_true, Bool.and_eq_true, Bool.and_eq_true] at h1
          obtain ⟨k1, k2, k3, k4⟩ := h1
          have k4 := of_decide_eq_true k4
          exact ⟨i, j, l, _, rfl, ⟨of_decide_eq_true k1, of_decide_eq_true k2, k3, (Int.toNat_of_nonneg k4).symm⟩, Post.of po4 re3 _ (.of it_step)⟩
        | _ => simp [bRng3] at hd
      | _ => cases r3 <;> simp [bRng3] at hd
    | _ => cases r2 <;> cases r3 <;> simp [bRng3] at hd
def mWhile (t : M Bool) (mb : M Fl) : Nat → M Fl
  | 0 => fun _ => .bad
  | k + 1 => fun δ => match t δ with
    | .ok true δ1 => (match mb δ1 with
      | .ok .nx δ2 => mWhile t mb k δ2
      | .ok .ct δ2 => mWhile t mb k δ2
      | .ok .bk δ2 => .ok .nx δ2
      | .ok (.rt c) δ2 => .ok (.rt c) δ2
      | .exc x δ2 => .exc x δ2
      | .bad => .bad)
    | .ok false δ1 => .ok .nx δ1
    | .exc x δ1 => .exc x δ1
    | .bad => .bad
theorem js_while {c : Expr} {body : List Stmt} {t : M Bool} {mb : M Fl} (k : Nat) (hp : PassesOwn (model X.prog X.w) X.A X.env X.xe) (hc : PT X c (tOfT X.K E t)) (hb : PSs X body (tOfS X.K E mb)) : PS X (.While c body [] pos) (tOfS X.K E (mWhile t mb k)) :=
  pst_imp (ps_while hp hc hb) fun B σ H ⟨G, g, δ, re, po⟩ => by
    refine ⟨fun n σ' H' => ∃ g' δ', Le g g' ∧ RE X.K G g' H' σ' δ' ∧ PostF X.K E G g' (mWhile t mb n δ') B, ⟨k, g, δ, Le.refl _, re, po⟩, ?_⟩
    rintro n σ1 H1 ⟨g1, δ1, e1, re1, po1⟩
    cases n with
    | zero => exact po1.elim
    | succ n =>
      unfold mWhile at po1
      refine ⟨G, g1, δ1, re1, ?_⟩
      cases q : t δ1 with
      | bad => rw [q] at po1; exact po1
      | exc x δ2 => rw [q] at po1; exact fun g2 H2 e2 re2 => po1 σ1 g2 H2 e2 re2
      | ok b δ2 =>
        rw [q] at po1
        intro g2 H2 e2 re2
        cases b with
        | false =>
          rw [if_neg (by decide)]
          exact po1 σ1 g2 H2 e2 re2
        | true =>
          rw [if_pos rfl]
          dsimp only at po1
          refine ⟨fun σ3 H3 => ∃ g3 δ3, Le g g3 ∧ RE X.K G g3 H3 σ3 δ3 ∧ PostF X.K E G g3 (mWhile t mb n δ3) B, fun σ3 H3 h => ⟨n, Nat.lt_succ_self n, h⟩, G, g2, δ2, re2, ?_⟩
          have ea := e1.trans e2
          cases z : mb δ2 with
          | ok fl δ3 =>
            rw [z] at po1
            cases fl with
            | nx => exact fun σ5 g5 H5 e5 re5 => ⟨g5, δ3, ea.trans e5, re5, PostS.ex po1 (e2.trans e5)⟩
            | ct => exact fun σ5 g5 H5 e5 re5 => ⟨g5, δ3, ea.trans e5, re5, PostS.ex po1 (e2.trans e5)⟩
            | bk => exact fun σ5 g5 H5 e5 re5 => po1 σ5 g5 H5 (e2.trans e5) re5
            | rt s => exact fun σ5 g5 H5 e5 re5 => po1 σ5 g5 H5 (e2.trans e5) re5
          | exc x δ3 =>
            rw [z] at po1
            exact fun σ5 g5 H5 e5 re5 => po1 σ5 g5 H5 (e2.trans e5) re5
          | bad => rw [z] at po1; exact po1
end
end Ds
namespace Ds
open PySem PySem.Spec PyProof.Rows L2 Dn
inductive KVs (K : Frag) : List DictEntry → List (Str × D) → Prop where
  | nil : KVs K [] []
  | cons {e : DictEntry} {r : List DictEntry} {x : Str} {t : Tok} {v : V} {d : D} {kvs : List (Str × D)} : e.key = .str x t → RelV v e.val → (∀ H, Rp K H v d) → KVs K r kvs → KVs K (e :: r) ((x, d) :: kvs)
def KDv (w : World) (K : Frag) (d : Addr) (kvs : List (Str × D)) : Prop := ∃ es n, KDict K w d es n ∧ KVs K es.toList kvs
theorem KVs.keys {K : Frag} {es : List DictEntry} {kvs : List (Str × D)} (h : KVs K es kvs) : KKeys es (kvs.map (·.1)) := by
  induction h with
  | nil => exact .nil
  | cons a _ _ _ ih => exact .cons a ih
def lookS (kvs : List (Str × D)) (z : Str) : Option D := (kvs.find? fun kv => decide (kv.1 = z)).map (·.2)
theorem KVs.find {K : Frag} {es : List DictEntry} {kvs : List (Str × D)} (h : KVs K es kvs) {z : Str} {d : D} (q : lookS kvs z = some d) : ∃ e v, es.find? (·.key.isStr z) = some e ∧ RelV v e.val ∧ ∀ H, Rp K H v d := by
  induction h with
  | nil => cases q
  | @cons e r x t v d0 kvs he hv hr _ ih =>
    have k1 : e.key.isStr z = (x == z) := by rw [he]; rfl
    unfold lookS at q ih
    rw [List.find?_cons] at q ⊢
    by_cases hx : x = z
    · rw [decide_eq_true hx] at q
      obtain rfl : d0 = d := Option.some.inj q
      rw [k1, hx, beq_self_eq_true]
      exact ⟨e, v, rfl, hv, hr⟩
    · rw [decide_eq_false hx] at q
      have : (x == z) = false := by simpa using hx
      rw [k1, this]
      exact ih q
theorem KDv.at_ {w : World} {K : Frag} {a : Addr} {kvs : List (Str × D)} (h : KDv w K a kvs) {z : Str} {d : D} (q : lookS kvs z = some d) : ∃ v, KDct K w a z v ∧ ∀ H, Rp K H v d := by
  obtain ⟨es, n, D, k⟩ := h
  obtain ⟨e, v, h1, h2, h3⟩ := k.find q
  refine ⟨v, ⟨es, n, e.val, D.at_, D.lit, ?_, h2⟩, h3⟩
  unfold PySem.W.nsIn
  rw [D.at_]
  dsimp only
  rw [h1]
section
variable {X : Cx} {E : XQ} {e o : Expr} {pos : Pos} {m : M D} {ml : M Nat}
def mKGet (kvs : List (Str × D)) (m : M D) : M D := mBind m fun e => mOpt ((toS e).bind (lookS kvs))
def keysS : List (Key × Cl) → Option (List Str)
  | [] => some []
  | (.inr x, _) :: r => (keysS r).map (x :: ·)
  | _ => none
theorem keysS_eq {K : Frag} {g : Gh} {vs : List (Key × V)} {cs : List (Key × Cl)} (r : KR K g vs cs) : ∀ {ks : List Str}, keysS cs = some ks → vs.map (·.1) = ks.map Sum.inr := by
  induction r with
  | nil => intro ks h; obtain rfl := Option.some.inj h; rfl
  | @cons p q ps qs h t ih =>
    intro ks hk
    obtain ⟨k, c⟩ := q
    cases k with
    | inl i => cases hk
    | inr x =>
      obtain ⟨r0, h1, rfl⟩ := Option.map_eq_some_iff.mp (show (keysS qs).map (x :: ·) = some ks from hk)
      rw [List.map_cons, List.map_cons, ih h1, h.1]
def mSortD (ml : M Nat) : M D := mBind ml fun l δ => match δ.s[l]? with
  | some (.dk kvs) => (match keysS kvs with
    | some ks => if ks.length < 64 then .ok (.list ((sortT ks).map PyData.str)) δ else .bad
    | none => .bad)
  | _ => .bad
def rSortK : List V → Hp → VK → Prop := fun xs H Q => ∃ (a : Addr) (kvs : List (Key × V)) (ks : List Str), xs = [.ref a] ∧ Rd H a (.dK kvs) ∧ kvs.map (·.1) = ks.map Sum.inr ∧ ks.length < 64 ∧
  ∀ ys p, ys.Perm ks → sortedS ys = true → H p = none → Q (.ref p) (upd H p (.lst (ys.map V.str)))
theorem cr_sortK (hc : X.calm = true) : CallR X (.builtin "sorted") rSortK := call_sortedD hc
theorem je_sortD {p : Pos} (hc : X.calm = true) (hg : Gl X "sorted") (hm : X.mg "sorted" = none) (hv : bootBuiltins "sorted" = some (.builtin "sorted")) (ho : PE X o (tOfL X.K E ml))
    (h1 : starEach [o] X.env = (false, eval o X.env) :: starEach [] X.env := by rfl) (hpl : (backTo pos (starEach [] X.env)).any (·.1) = false := by rfl) : PE X (.Call (.Name "sorted" p) [o] [] pos) (tOf X.K E (mSortD ml)) :=
  pe_imp (pe_callB (cr_sortK hc) hg hm hv (pa_cons ho pa_nil h1) (by decide) (by decide) h1 hpl) fun σ H Q ⟨G, g, δ, re, po⟩ => by
    show tOfL X.K E ml σ H fun v H1 => rSortK [v] H1 Q
    refine tOfL.step re po fun q l g1 H1 δ1 e1 re1 r1 po1 => ?_
    split at po1
    · rename_i kvs hx
      split at po1
      · rename_i ks hks
        split at po1
        · rename_i hl
          obtain ⟨vs, k1, k2⟩ := re1.dkAt r1 hx
          refine ⟨q, vs, ks, rfl, .inl k1, keysS_eq k2 hks, hl, fun ys a hp hs ha => ?_⟩
          obtain rfl := sortT_of hs hp
          exact Post.grow po1 re1 (Grw.new re1.ex ha) _ (.lst (SqL.of upd_same) (Rps.of_strs _))
        · exact po1.elim
      · exact po1.elim
    · exact po1.elim
end
end Ds
namespace Ds
open PySem PySem.Spec PyProof.Rows L2 Dn
def isTI : List Key → Bool
  | .inr _ :: .inl _ :: _ => true
  | _ => false
def toKs : List D → Option (List Key)
  | [] => some []
  | d :: ds => match toK d, toKs ds with
    | some k, some ks => some (k :: ks)
    | _, _ => none
def toTK : D → Option (List Key)
  | .tuple ds => match toKs ds with
    | some ks => if isTI ks then some ks else none
    | none => none
  | _ => none
def keyD : Key → D
  | .inl i => .int i
  | .inr x => .str x
/-- a dict with tuple keys, locked or not -/
def dtOf : Ob → Option (List (List Key × Cl))
  | .dt kvs => some kvs
  | .ft kvs => some kvs
  | _ => none
def tkAt (s : List Ob) (l : Nat) : Option (List (List Key × Cl)) := (s[l]?).bind dtOf
section
variable {X : Cx} {E : XQ} {a b e o f : Expr} {pos : Pos} {m mk mx : M D} {mc : M Cl} {ml : M Nat} {m1 m2 : M Fl}
/-- d[k] -/
def mTGet (ml : M Nat) (mk : M D) : M Cl := mBind ml fun l => mBind mk fun e δ => match tkAt δ.s l, toTK e with
  | some kvs, some k => match valC kvs k with
    | some c => .ok c δ
    | none => .bad
  | _, _ => .bad
def isDt (l : Nat) : M Nat := fun δ => match tkAt δ.s l with
  | some _ => .ok l δ
  | _ => .bad
/-- d.get(k, x) -/
def mTGet2 (ml : M Nat) (mk : M D) (mc : M Cl) : M Cl := mBind ml fun l => mBind (isDt l) fun l => mBind mk fun e => mBind mc fun z δ => match tkAt δ.s l, toTK e with
  | some kvs, some k => .ok ((valC kvs k).getD z) δ
  | _, _ => .bad
/-- d[k] = x -/
def mTPut (ml : M Nat) (mk : M D) (mc : M Cl) : M Fl := mBind mc fun c => mBind ml fun l => mBind mk fun e δ => match δ.s[l]?, toTK e with
  | some (.dt kvs), some k => if kvs.length < sizeLine then .ok .nx ⟨δ.e, δ.s.set l (.dt (putC kvs k c))⟩ else .bad
  | _, _ => .bad
/-- k in d, k not in d -/
def mTIn (neg : Bool) (mk : M D) (ml : M Nat) : M D := mBind mk fun e => mBind ml fun l δ => match tkAt δ.s l, toTK e with
  | some kvs, some k => .ok (.bool (if neg then !(valC kvs k).isSome else (valC kvs k).isSome)) δ
  | _, _ => .bad
/-- {} -/
def mTNew : M Nat := mAll (.dt [])
end
end Ds
namespace Ds
open PySem PySem.Spec PyProof.Rows L2 Dn
theorem clsA_of {K : Frag} {c : Str} {C : Addr} (h : PySem.W.nsIn K mainGlobals c = some (some (.ref C))) : clsA K c = some C := by
  unfold clsA
  rw [h]
def putFC (f : Str) (c : Cl) : List (Str × Cl) → List (Str × Cl)
  | [] => [(f, c)]
  | (g, x) :: r => if g = f then (g, c) :: r else (g, x) :: putFC f c r
section
variable {K : Frag} {g : Gh}
theorem KR.look {vs : List (Str × V)} {cs : List (Str × Cl)} (r : KR K g vs cs) (f : Str) : (cs.lookup f = none ∧ vs.lookup f = none) ∨ ∃ v c, cs.lookup f = Option.some c ∧ vs.lookup f = Option.some v ∧ CR K g v c := by
  induction r with
  | nil => exact .inl ⟨rfl, rfl⟩
  | @cons p q ps qs h t ih =>
    obtain ⟨p1, p2⟩ := p
    obtain ⟨q1, q2⟩ := q
    obtain ⟨h1, h2⟩ := h
    dsimp only at h1 h2
    subst h1
    by_cases e : f = p1
    · subst e
      refine .inr ⟨p2, q2, ?_, ?_, h2⟩
      · simp [List.lookup]
      · simp [List.lookup]
    · have b : (f == p1) = false := by simpa using e
      have e1 : List.lookup f ((p1, q2) :: qs) = List.lookup f qs := by simp only [List.lookup, b]
      have e2 : List.lookup f ((p1, p2) :: ps) = List.lookup f ps := by simp only [List.lookup, b]
      rw [e1, e2]
      exact ih
theorem KR.putF {vs : List (Str × V)} {cs : List (Str × Cl)} (r : KR K g vs cs) (f : Str) {v : V} {c : Cl} (h : CR K g v c) : KR K g (L2.putF f v vs) (putFC f c cs) := by
  induction r with
  | nil => exact .cons ⟨rfl, h⟩ .nil
  | @cons p q ps qs h' t ih =>
    obtain ⟨p1, p2⟩ := p
    obtain ⟨q1, q2⟩ := q
    obtain ⟨h1, h2⟩ := h'
    dsimp only at h1 h2
    subst h1
    unfold L2.putF putFC
    by_cases e : p1 = f
    · rw [if_pos e, if_pos e]; exact .cons ⟨rfl, h⟩ t
    · rw [if_neg e, if_neg e]; exact .cons ⟨rfl, h2⟩ ih
theorem RE.insAt {G : Hp} {H : Hp} {σ : L2.St} {δ : Sx} (r : RE K G g H σ δ) {l : Nat} {a C : Addr} {c : Str} {fs : List (Str × Cl)} (hC : clsA K c = some C) (h : g.r[l]? = some a) (hx : δ.s[l]? = some (.ins c fs)) : ∃ dx vs, H a = some (.ins C dx vs) ∧ KR K g vs fs := by
  obtain ⟨b, u, h1, h2, h3, h4⟩ := r.ob l _ hx rfl
  rw [h] at h1
  cases h1
  cases h3 with
  | ins hc h3 =>
    rw [hC] at hc
    cases hc
    exact ⟨_, _, h2, h3⟩
end
section
variable {X : Cx} {E : XQ} {a b e o : Expr} {pos : Pos} {mc : M Cl} {ml : M Nat} {c f : Str} {C : Addr}
/-- o.f -/
def mFld (c : Str) (ml : M Nat) (f : Str) : M Cl := mBind ml fun l δ => match δ.s[l]? with
  | some (.ins c' fs) => if c' = c then (match fs.lookup f with
    | some x => .ok x δ
    | none => .bad) else .bad
  | _ => .bad
theorem jc_fld (hC : clsA X.K c = some C) (k : Cls X.K C) (n : NoAttr X.K C f) (ho : PE X o (tOfL X.K E ml)) (hb : attributeBase o f X.env (eval o X.env) = eval o X.env := by rfl) : PE X (.Attribute o f pos) (tOfC X.K E (mFld c ml f)) :=
  pe_imp (pe_fld ho hb) fun σ H Q ⟨G, g, δ, re, po⟩ => tOfL.step re po fun q l g1 H1 δ1 e1 re1 r1 po1 => by
    split at po1
    · rename_i c' fs hx
      split at po1
      · rename_i hc
        subst hc
        split at po1
        · rename_i x hf
          obtain ⟨dx, vs, h1, h2⟩ := re1.insAt hC r1 hx
          rcases h2.look f with ⟨z, _⟩ | ⟨v, y, k1, k2, k3⟩
          · rw [z] at hf; cases hf
          · rw [k1] at hf
            cases hf
            exact ⟨q, C, dx, vs, v, rfl, h1, k, n, k2, Post.of po1 re1 v k3⟩
        · exact po1.elim
      · exact po1.elim
    · exact po1.elim
/-- o.f = e -/
def mSetF (c : Str) (ml : M Nat) (f : Str) (mc : M Cl) : M Fl := mBind mc fun x => mBind ml fun l δ => match δ.s[l]? with
  | some (.ins c' fs) => if c' = c ∧ fs.length < 1000 then .ok .nx ⟨δ.e, δ.s.set l (.ins c (putFC f x fs))⟩ else .bad
  | _ => .bad
theorem js_setF {pos' : Pos} {v : Expr} (hC : clsA X.K c = some C) (k : Cls X.K C) (n : NoAttr X.K C f) (ho : PE X o (tOfL X.K E ml)) (hv : PE X v (tOfC X.K E mc)) (hs : swapsWith v (some (.Attribute o f pos')) pos.line X.env = pure false := by rfl) : PS X (.Assign [.Attribute o f pos'] v pos) (tOfS X.K E (mSetF c ml f mc)) :=
  pst_imp (ps_fld ho hv hs) fun B σ H ⟨G, g, δ, re, po⟩ => tOfC.stepS re po fun w x g1 H1 δ1 e1 re1 r1 po1 => tOfL.stepS re1 po1 fun q l g2 H2 δ2 e2 re2 r2 po2 => by
    split at po2
    · rename_i c' fs hx
      split at po2
      · rename_i hc
        obtain ⟨hc, hl⟩ := hc
        subst hc
        obtain ⟨dx, vs, h1, h2⟩ := re2.insAt hC r2 hx
        exact ⟨q, C, dx, vs, rfl, h1, k, n, by rw [h2.length]; exact hl, PostS.of po2 (re2.write hx rfl r2 (.ins hC (h2.putF f (r1.le e2))))⟩
      · exact po2.elim
    · exact po2.elim
theorem evA_len : ∀ (as : List (M Cl)) (δ : Sx) (cs : List Cl) (δ' : Sx), evA as δ = .ok cs δ' → cs.length = as.length := fun as => by
  induction as with
  | nil => intro δ cs δ' h; cases h; rfl
  | cons m as ih =>
    intro δ cs δ' h
    unfold evA mBind at h
    cases q : m δ with
    | ok c δ1 =>
      rw [q] at h
      dsimp only at h
      cases q2 : evA as δ1 with
      | ok cs2 δ2 =>
        rw [q2] at h
        have h : Res.ok (c :: cs2) δ2 = Res.ok cs δ' := h
        injection h with h1 h2
        subst h1
        rw [List.length_cons, List.length_cons, ih _ _ _ q2]
      | exc y δ2 => rw [q2] at h; cases h
      | bad => rw [q2] at h; cases h
    | exc y δ1 => rw [q] at h; cases h
    | bad => rw [q] at h; cases h
/-- o.m(..) -/
def isIns (c m : Str) (l : Nat) : M Nat := fun δ => match δ.s[l]? with
  | some (.ins c' fs) => if c' = c ∧ fs.lookup m = none then .ok l δ else .bad
  | _ => .bad
theorem isIns_ok (c m : Str) (l : Nat) (δ : Sx) : isIns c m l δ = .bad ∨ ∃ fs, δ.s[l]? = some (.ins c fs) ∧ fs.lookup m = none ∧ isIns c m l δ = .ok l δ := by
  unfold isIns
  split
  · rename_i c' fs h
    split
    · rename_i hc
      obtain ⟨rfl, h2⟩ := hc
      exact .inr ⟨fs, h, h2, rfl⟩
    · exact .inl rfl
  · exact .inl rfl
def mMeth (c m : Str) (F : Fn) (ml : M Nat) (as : List (M Cl)) : M Cl := mBind ml fun l => mBind (isIns c m l) fun l => mBind (evA as) fun cs δ => match F (.lo l :: cs) δ.s with
  | .ok x s' => .ok x ⟨δ.e, s'⟩
  | .exc y s' => .bad
  | .bad => .bad
variable {F : Fn} {as : List (M Cl)} {k n : Nat} {fa : Addr} {fd : FuncData} {pr : List Str} {x m : Str} {es : List Expr} {p apos : Pos} {E0 : XK}
theorem meth_read (hC : clsA X.K c = some C) (hn : as.length + 1 = n) {σ : L2.St} {H : Hp} {Q : VK} (h : tOfC X.K E (mMeth c m F ml as) σ H Q) : tMeth C m (spF X.K n F) [] E0 (tOfL X.K E ml) (tOfA X.K E (evA as)) σ H Q := by
  obtain ⟨G, g, δ, re, po⟩ := h
  unfold tMeth
  refine tOfL.step re po fun q l g1 H1 δ1 e1 re1 r1 po1 => ?_
  unfold mBind at po1
  rcases isIns_ok c m l δ1 with h | ⟨fs, hx, hf, h⟩
  · rw [h] at po1; exact po1.elim
  rw [h] at po1
  dsimp only at po1
  obtain ⟨dx, vs, h1, h2⟩ := re1.insAt hC r1 hx
  have hlk : vs.lookup m = none := by
    rcases h2.look m with ⟨_, z⟩ | ⟨v, y, k1, _, _⟩
    · exact z
    · rw [hf] at k1; cases k1
  refine ⟨q, dx, vs, rfl, h1, hlk, ?_⟩
  have po' := po1
  cases qa : evA as δ1 with
  | ok cs0 δ0 =>
    have hl := evA_len _ _ _ _ qa
    rw [qa] at po'
    refine ⟨G, g1, δ1, re1, ?_⟩
    rw [qa]
    intro g2 H2 e2 re2 us r2
    have po2 := Post.ex po' e2
    rw [List.append_nil]
    dsimp only at po2
    refine ⟨by rw [List.length_cons, r2.length, hl, hn], G, g2, .lo l :: cs0, δ0.s, re2.bare, .cons (.lo (e2.r _ _ r1)) r2, ?_⟩
    cases q : F (.lo l :: cs0) δ0.s with
    | ok c s' =>
      rw [q] at po2
      exact fun g' H' e r v rv => po2 g' H' e (re2.lift e r) v rv
    | exc y s' => rw [q] at po2; exact po2.elim
    | bad => rw [q] at po2; exact po2.elim
  | exc y δ0 =>
    rw [qa] at po'
    refine ⟨G, g1, δ1, re1, ?_⟩
    rw [qa]
    exact po'
  | bad => rw [qa] at po'; exact po'.elim
theorem jc_meth {pl : Sem Bool} (hC : clsA X.K c = some C) (k0 : Cls X.K C) (hM : Meth X.K C m fa) (G : FnOk X.prog X.w X.K X.mg X.base CX0 k fa fd pr (spF X.K n F)) (hn : as.length + 1 = n) (hr : Room k X.A) (hb : Binds X.K fd pr []) (ho : PE X o (tOfL X.K E ml)) (ha : PA X (e :: es) (tOfA X.K E (evA as)))
    (hst : starEach (e :: es) X.env = (false, eval e X.env) :: starEach es X.env := by rfl) (hpl : (backTo pos (starEach es X.env)).any (·.1) = false := by rfl)
    (ht : eval (.Call (.Attribute o m apos) (e :: es) [] pos) X.env = (do
      let ov ← eval o X.env
      standAt apos.atName
      let (f, first) ← holding [ov] (getMethod ov m pl)
      callWith pos f first (backTo pos (starEach (e :: es) X.env)) (backToKw pos (keywordEach [] X.env))) := by rfl) : PE X (.Call (.Attribute o m apos) (e :: es) [] pos) (tOfC X.K E (mMeth c m F ml as)) :=
  pe_imp (pe_meth (pl := pl) ho k0 hM G hr hb .nil pass0 ha hst hpl ht) fun _ _ _ h => meth_read hC hn h
theorem jc_meth0 {pl : Sem Bool} (hC : clsA X.K c = some C) (k0 : Cls X.K C) (hM : Meth X.K C m fa) (G : FnOk X.prog X.w X.K X.mg X.base CX0 k fa fd pr (spF X.K 1 F)) (hr : Room k X.A) (hb : Binds X.K fd pr []) (ho : PE X o (tOfL X.K E ml))
    (ht : eval (.Call (.Attribute o m apos) [] [] pos) X.env = (do
      let ov ← eval o X.env
      standAt apos.atName
      let (f, first) ← holding [ov] (getMethod ov m pl)
      callWith pos f first (backTo pos (starEach [] X.env)) (backToKw pos (keywordEach [] X.env))) := by rfl) : PE X (.Call (.Attribute o m apos) [] [] pos) (tOfC X.K E (mMeth c m F ml [])) :=
  pe_imp (pe_meth0 (pl := pl) ho k0 hM G hr hb .nil pass0 ht) fun σ H Q h => by
    have z := meth_read (E0 := fun _ _ _ => False) hC (n := 1) rfl h
    unfold tMeth at z ⊢
    obtain ⟨G, g, δ, re, po⟩ := z
    refine ⟨G, g, δ, re, po.mono fun l g' H' δ' h a ha => ?_⟩
    obtain ⟨q, dx, fs, h1, h2, h3, h4⟩ := h a ha
    exact ⟨q, dx, fs, h1, h2, h3, nil_read h4⟩
/-- C(..) -/
def mMake (c : Str) (F : Fn) (as : List (M Cl)) : M Nat := mBind (evA as) fun cs δ => match F (.lo δ.s.length :: cs) (δ.s ++ [.ins c []]) with
  | .ok (.sh .none) s' => .ok δ.s.length ⟨δ.e, s'⟩
  | _ => .bad
theorem make_spec {G : Hp} {g1 : Gh} {H1 : Hp} {σ : L2.St} {δ1 : Sx} {cs : List Cl} {vs : List V} {Q : VK} (hC : clsA X.K c = some C) (hn : cs.length + 1 = n) (re1 : RE X.K G g1 H1 σ δ1) (r1 : All2 (CR X.K g1) vs cs) (po : Post X.K E G g1 σ (match F (.lo δ1.s.length :: cs) (δ1.s ++ [.ins c []]) with
  | .ok (.sh .none) s' => .ok δ1.s.length ⟨δ1.e, s'⟩
  | _ => (.bad : Res Nat)) fun l g' H' _ => ∀ a, g'.r[l]? = some a → Q (.ref a) H') : ∀ x dx, H1 x = none → H1 dx = none → dx ≠ x → spF X.K n F (.ref x :: (vs ++ [])) (upd (upd H1 dx (.own x)) x (.ins C dx [])) (fun v H2 => v = .non ∧ Q (.ref x) H2) E0 := by
  intro x dx hx hdx hne
  have ra := re1.newH (ex_new (o := .own x) hdx)
  have hx2 : upd H1 dx (.own x) x = none := by rw [upd_ne (Ne.symm hne)]; exact hx
  have rb := ra.newH (ex_new (o := .ins C dx []) hx2)
  have fr : Fro X.K G g1 (upd (upd H1 dx (.own x)) x (.ins C dx [])) x (.ins c []) := Fro.new ra hx2 (.ins hC .nil)
  obtain ⟨le, rc⟩ := rb.alloc fr
  have hlx : (g1.r ++ [x])[δ1.s.length]? = some x := by
    have hl : g1.r.length = δ1.s.length := re1.rl
    rw [← hl, List.getElem?_append_right (Nat.le_refl _), Nat.sub_self]
    rfl
  rw [List.append_nil]
  refine ⟨by rw [List.length_cons, r1.length, hn], G, ⟨g1.r ++ [x], g1.h⟩, .lo δ1.s.length :: cs, δ1.s ++ [.ins c []], rc.bare, .cons (.lo hlx) (CRs.le le r1), ?_⟩
  cases q : F (.lo δ1.s.length :: cs) (δ1.s ++ [.ins c []]) with
  | ok y s' =>
    rw [q] at po
    cases y with
    | sh d =>
      cases d with
      | none =>
        intro g' H' e r v rv
        refine ⟨?_, ?_⟩
        · cases rv with
          | sh h => cases h; rfl
        · exact po g' H' (le.trans e) (re1.lift (le.trans e) r) x (e.r _ _ hlx)
      | _ => exact po.elim
    | _ => exact po.elim
  | exc y s' => rw [q] at po; exact po.elim
  | bad => rw [q] at po; exact po.elim
theorem jl_make (hC : clsA X.K c = some C) (M0 : Mk X.K C fa) (G : FnOk X.prog X.w X.K X.mg X.base CX0 k fa fd pr (spF X.K n F)) (hn : as.length + 1 = n) (hr : Room (k + 1) X.A) (hg : Gl X x) (hm : X.mg x = some (.ref C)) (hb : Binds X.K fd pr []) (ha : PA X (e :: es) (tOfA X.K E (evA as)))
    (hdb : (x == ("__debug__" : Str)) = false := by decide) (he : starEach (e :: es) X.env = (false, eval e X.env) :: starEach es X.env := by rfl) (hpl : (backTo pos (starEach es X.env)).any (·.1) = false := by rfl) : PE X (.Call (.Name x p) (e :: es) [] pos) (tOfL X.K E (mMake c F as)) :=
  pe_imp (pe_make M0 G hr hg hm hb .nil pass0 ha hdb he hpl) fun σ H Q ⟨G, g, δ, re, po⟩ => by
    unfold tMake
    unfold mMake at po
    have po' := po
    unfold mBind at po'
    cases qa : evA as δ with
    | ok cs0 δ0 =>
      have hl := evA_len _ _ _ _ qa
      rw [qa] at po'
      refine ⟨G, g, δ, re, ?_⟩
      rw [qa]
      intro g1 H1 e1 re1 vs r1
      exact make_spec hC (by rw [hl, hn]) re1 r1 (Post.ex po' e1)
    | exc y δ0 =>
      rw [qa] at po'
      refine ⟨G, g, δ, re, ?_⟩
      rw [qa]
      exact po'
    | bad => rw [qa] at po'; exact po'.elim
end
end Ds
namespace Ds
open PySem PySem.Spec PyProof.Rows L2 Dn
section
variable {K : Frag} {G : Hp} {g : Gh} {H : Hp} {σ : L2.St} {δ : Sx}
/-- a stable heap without d -/
def offH (h : Hp) (d : Addr) : Hp := fun a => if a = d then none else h a
theorem offH_ne {h : Hp} {d a : Addr} (k : a ≠ d) : offH h d a = h a := if_neg k
theorem offH_same {h : Hp} {d : Addr} : offH h d d = none := if_pos rfl
/-- dicts -/
def isDct : HO → Bool
  | .dT _ => true
  | .dK _ => true
  | _ => false
mutual
theorem Rp.unl {h : Hp} {d : Addr} {od : Obj} {u0 : HO} (hu : isDct u0 = true) (hd : h d = some (.frz od u0)) : ∀ {v : V} {x : D}, Rp K h v x → Rp K (offH h d) v x
  | _, _, .non => .non
  | _, _, .bl b => .bl b
  | _, _, .int i => .int i
  | _, _, .str x => .str x
  | _, _, .lst (a := a) q t => .lst (by
      rcases q with (q | ⟨o, q⟩) | q
      · have k : a ≠ d := fun z => by subst z; rw [hd] at q; cases q
        exact .inl (.inl (by rw [offH_ne k]; exact q))
      · have k : a ≠ d := fun z => by subst z; rw [hd] at q; cases q; cases hu
        exact .inl (.inr ⟨o, by rw [offH_ne k]; exact q⟩)
      · exact .inr q) (Rps.unl hu hd t)
  | _, _, .tup (a := a) q t => .tup (by
      rcases q with q | q
      · have k : a ≠ d := fun z => by subst z; rw [hd] at q; cases q
        exact .inl (by rw [offH_ne k]; exact q)
      · exact .inr q) (Rps.unl hu hd t)
theorem Rps.unl {h : Hp} {d : Addr} {od : Obj} {u0 : HO} (hu : isDct u0 = true) (hd : h d = some (.frz od u0)) : ∀ {us : List V} {xs : List D}, Rps K h us xs → Rps K (offH h d) us xs
  | _, _, .nil => .nil
  | _, _, .cons r t => .cons (Rp.unl hu hd r) (Rps.unl hu hd t)
end
theorem CR.unl {d : Addr} {od : Obj} {u0 : HO} (hu : isDct u0 = true) (hd : g.h d = some (.frz od u0)) {v : V} {c : Cl} (r : CR K g v c) : CR K ⟨g.r, offH g.h d⟩ v c := by
  cases r with
  | sh h => exact .sh (Rp.unl hu hd h)
  | lo h => exact .lo h
theorem FzR.unl {d : Addr} {od : Obj} {u0 : HO} (hu : isDct u0 = true) (hd : g.h d = some (.frz od u0)) {o : Ob} {u : HO} (r : FzR K g o u) : FzR K ⟨g.r, offH g.h d⟩ o u := by
  cases r with
  | ft t => exact .ft (t.imp fun _ _ k => ⟨k.1, k.2.unl hu hd⟩)
  | fk t => exact .fk (t.imp fun _ _ k => ⟨k.1, k.2.unl hu hd⟩)
theorem ObR.unl {d : Addr} {od : Obj} {u0 : HO} (hu : isDct u0 = true) (hd : g.h d = some (.frz od u0)) {o : Ob} {u : HO} (r : ObR K g o u) : ObR K ⟨g.r, offH g.h d⟩ o u := by
  cases r with
  | lst t => exact .lst (t.imp fun _ _ k => k.unl hu hd)
  | dk t => exact .dk (t.imp fun _ _ k => ⟨k.1, k.2.unl hu hd⟩)
  | dt t => exact .dt (t.imp fun _ _ k => ⟨k.1, k.2.unl hu hd⟩)
  | ins c t => exact .ins c (t.imp fun _ _ k => ⟨k.1, k.2.unl hu hd⟩)
theorem Rps.keys {h : Hp} : ∀ (ks : List Key), Rps K h (ks.map kV) (ks.map keyD)
  | [] => .nil
  | .inl i :: ks => .cons (.int i) (Rps.keys ks)
  | .inr x :: ks => .cons (.str x) (Rps.keys ks)
/-- the keys of a locked dict -/
def keysD (kvs : List (List Key × Cl)) : List D := kvs.map fun kv => .tuple (kv.1.map keyD)
end
section
variable {X : Cx} {E : XQ} {tg e : Expr} {pos : Pos} {ml p : M Nat}
def mKeysT (ml : M Nat) : M (List D) := mBind ml fun l δ => match δ.s[l]? with
  | some (.ft kvs) => .ok (keysD kvs) δ
  | _ => .bad
/-- while the dict at p is locked -/
def mLock {α : Type} (p : M Nat) (m : M α) : M α := fun δ => match p δ with
  | .ok l _ => (match δ.s[l]? with
    | some (.dt kvs) => (match m ⟨δ.e, δ.s.set l (.ft kvs)⟩ with
      | .ok x δ' => (match δ'.s[l]? with
        | some (.ft kvs') => .ok x ⟨δ'.e, δ'.s.set l (.dt kvs')⟩
        | _ => .bad)
      | _ => .bad)
    | _ => .bad)
  | _ => .bad
end
end Ds
namespace Ds
open PySem PySem.Spec PyProof.Rows L2 Dn
def tup1 : D → Bool
  | .tuple (_ :: _) => true
  | _ => false
def oth : D → Bool
  | .none => false
  | .tuple _ => false
  | _ => true
def sortB (ds : List D) : Bool := (ds.all fun d => ds.all fun e => PySem.W.alike d e) && (ds.all tup1 || ds.all oth) && (ds.all fun d => decide (d.depth ≤ 8)) && decide (ds.length ≤ sizeLine)
def sortD (ds : List D) : List D := ds.mergeSort (PySem.W.dataLe false id)
structure SortP (ds : List D) : Prop where
  al : PySem.W.AllAlike (ds.map id)
  so : PySem.W.Sortable (ds.map id)
  de : ∀ d ∈ ds, d.depth ≤ 8
  le : ds.length ≤ sizeLine
theorem sortB_p {ds : List D} (h : sortB ds = true) : SortP ds := by
  unfold sortB at h
  rw [Bool.and_eq_true, Bool.and_eq_true, Bool.and_eq_true, Bool.or_eq_true] at h
  obtain ⟨⟨⟨h1, h2⟩, h3⟩, h4⟩ := h
  refine ⟨?_, ?_, fun d hd => of_decide_eq_true (List.all_eq_true.mp h3 d hd), of_decide_eq_true h4⟩
  · rw [List.map_id]
    exact fun d hd e he => List.all_eq_true.mp (List.all_eq_true.mp h1 d hd) e he
  · rw [List.map_id]
    rcases h2 with h2 | h2
    · refine .inl fun d hd => ?_
      have := List.all_eq_true.mp h2 d hd
      cases d with
      | tuple xs =>
        cases xs with
        | nil => cases this
        | cons x r => exact ⟨x, r, rfl⟩
      | _ => cases this
    · refine .inr fun d hd => ?_
      have := List.all_eq_true.mp h2 d hd
      refine ⟨fun z => ?_, fun xs z => ?_⟩
      · subst z; cases this
      · subst z; cases this
section
variable {X : Cx} {pins : List (Addr × Obj)} {σ : L2.St} {H : Hp} {s : Shared}
theorem each_of {K : Frag} {xs : List V} {us : List Value} {ds : List D} (r : Rps K H xs ds) : Vals xs us → PySem.W.EachIs (fun u d => ∃ v, RelV v u ∧ Rp K H v d) us ds := by
  intro h
  induction h generalizing ds with
  | nil => cases r; exact .nil
  | cons h t ih =>
    cases r with
    | cons r1 r2 => exact .cons ⟨_, h, r1⟩ (ih r2)
theorem of_each {K : Frag} {us : List Value} {ds : List D} (r : PySem.W.EachIs (fun u d => ∃ v, RelV v u ∧ Rp K H v d) us ds) : ∃ xs, Vals xs us ∧ Rps K H xs ds := by
  induction r with
  | nil => exact ⟨[], .nil, .nil⟩
  | cons h t ih =>
    obtain ⟨v, h1, h2⟩ := h
    obtain ⟨xs, k1, k2⟩ := ih
    exact ⟨v :: xs, .cons h1 k1, .cons h2 k2⟩
def rSortData (K : Frag) : List V → Hp → VK → Prop := fun vs H Q => ∃ Hs a xs ds, vs = [V.ref a] ∧ Ex Hs H ∧ SqL K H a xs ∧ Rps K Hs xs ds ∧ SortP ds ∧ ∀ ys p, Rps K Hs ys (sortD ds) → H p = none → Q (.ref p) (upd H p (.lst ys))
theorem cr_sortData (hu : X.A.units + 64 < cLine) : CallR X (.builtin "sorted") (rSortData X.K) := by
  intro pins s σ H vs us Q I r h
  obtain ⟨Hs, a, xs, ds, rfl, ex, hs, hr, hp, q⟩ := h
  obtain ⟨its, rv, hl, hz⟩ := I.list hs
  rw [Vals.ref1 r]
  have e := each_of hr rv
  have er : PySem.W.EachIs (fun u d => ∃ as, Reads s.heap u (id d) as) its ds := e.mono fun u d ⟨v, h1, h2⟩ => Dp.reads I d v u (Rp.dp (h2.ex ex)) h1
  refine PySem.W.sorted_data (enc := id) hl.isList e er hp.al hp.so hp.le (fun d hd => ?_) fun out hlo ho => ?_
  · have := hp.de d hd
    show _ + 2 + d.depth < cLine
    first
      | omega
      | (show X.A.units + 1 + 2 + d.depth < cLine; omega)
      | (show X.A.units + 1 + 1 + 2 + d.depth < cLine; omega)
  · obtain ⟨ys, k1, k2⟩ := of_each ho
    obtain ⟨ep, he'⟩ := PyProof.Rows.sortedAll_at s.heap its out.toArray
    have hlen : ys.length ≤ sizeLine := by
      rw [Rps.length k2]
      rw [List.length_mergeSort]
      exact hp.le
    refine ⟨.ref _, upd H (s.heap.objs.size + 1) (.lst ys), I.laid (t' := s.toks) (fun _ _ => PyProof.Rows.sortedAll_old) (Nat.le_succ _) ⟨hlen, out, ep, k1, he'⟩, rfl, q _ _ k2 (I.hok.fresh (Nat.le_succ _))⟩
end
section
variable {X : Cx} {E : XQ} {o : Expr} {pos p : Pos} {ml : M Nat} {m : M D}
/-- sorted of data -/
def mSortL (m : M D) : M D := mBind m fun d => mOpt (match d with
  | .list ds => if sortB ds then some (.list (sortD ds)) else none
  | _ => none)
theorem je_sortL (hu : X.A.units + 64 < cLine) (hg : Gl X "sorted") (hm : X.mg "sorted" = none) (hv : bootBuiltins "sorted" = some (.builtin "sorted")) (ho : PE X o (tOf X.K E m))
    (h1 : starEach [o] X.env = (false, eval o X.env) :: starEach [] X.env := by rfl) (hpl : (backTo pos (starEach [] X.env)).any (·.1) = false := by rfl) : PE X (.Call (.Name "sorted" p) [o] [] pos) (tOf X.K E (mSortL m)) :=
  pe_imp (pe_callB (cr_sortData hu) hg hm hv (pa_cons ho pa_nil h1) (by decide) (by decide) h1 hpl) fun σ H Q ⟨G, g, δ, re, po⟩ => by
    show tOf X.K E m σ H fun v H1 => rSortData X.K [v] H1 Q
    refine tOf.step re po fun v d g1 H1 δ1 e1 re1 r1 po1 => ?_
    obtain ⟨c, hc, po2⟩ := Post.opt po1
    cases r1 with
    | @lst a xs ds q t =>
      dsimp only at hc
      split at hc
      · rename_i hb
        cases hc
        exact ⟨g1.h, a, xs, ds, rfl, re1.ex, sqL_ex re1.ex q, t, sortB_p hb, fun ys b hy hb' => Post.grow po2 re1 (Grw.new re1.ex hb') _ (.lst (SqL.of upd_same) (Rps.ex (Gr.new re1.ex hb').s hy))⟩
      · cases hc
    | _ => cases hc
/-- sorted of a dict with tuple keys -/
def mSortDT (ml : M Nat) : M D := mBind ml fun l δ => match tkAt δ.s l with
  | some kvs => if sortB (keysD kvs) then .ok (.list (sortD (keysD kvs))) δ else .bad
  | none => .bad
end
end Ds
namespace Ds
open PySem PySem.Spec PyProof.Rows L2 Dn
def mBad {α : Type} : M α := fun _ => .bad
section
variable {X : Cx} {E : XQ} {a b : Expr} {pos p p' : Pos} {ma mb : M D}
theorem js_bad {st : Stmt} : PS X st (tOfS X.K E mBad) := ⟨fun pins s σ H D I h => by
  obtain ⟨G, g, δ, re, po⟩ := h
  exact po.elim⟩
def mListR1 (m : M D) : M D := mBind m fun d => mOpt (match d with
  | .int j => if inLine j = true ∧ (j - 0).toNat ≤ 16777216 then some (.list (rngD 0 (j - 0).toNat)) else none
  | _ => none)
end
end Ds
namespace HT
open PySem PyProof.Rows PySem.W
theorem adjust_rev (n : Nat) : Builtin.Slice.sliceAdjust none none (-1) (n : Int) = ((n : Int) - 1, -1) := by
  have h1 : ((-1 : Int) < 0) := by omega
  unfold Builtin.Slice.sliceAdjust
  simp only [h1, if_true]
theorem places_rev (n : Nat) : Builtin.Slice.slicePlaces ((n : Int) - 1) (-1) (-1) = n := by
  unfold Builtin.Slice.slicePlaces
  have h1 : ¬ ((-1 : Int) > 0) := by omega
  simp only [h1, if_false]
  by_cases h : (n : Int) - 1 > -1
  · have e : ((n : Int) - 1 - -1 - 1) / (- -1) = (n : Int) - 1 := by
      rw [show (- -1 : Int) = 1 by decide, Int.ediv_one]
      omega
    simp only [h, if_true, e]
    omega
  · simp only [h, if_false]
    omega
theorem pick_rev (xs : Array Value) : ((List.range xs.size).filterMap fun (m : Nat) => xs[(((xs.size : Int) - 1) + (m : Int) * (-1)).toNat]?).toArray = xs.toList.reverse.toArray := by
  have e : ((List.range xs.size).filterMap fun (m : Nat) => xs[(((xs.size : Int) - 1) + (m : Int) * (-1)).toNat]?) = ((List.range xs.size).map (fun k => xs.size - 1 - k)).filterMap (xs[·]?) := by
    rw [List.filterMap_map]
    congr 1
    funext m
    have : (((xs.size : Int) - 1) + (m : Int) * (-1)).toNat = xs.size - 1 - m := by omega
    simp only [this, Function.comp]
  rw [e, krv_range, List.filterMap_reverse, krv_all]
section
variable {prog : Program} {w : World} {A : Around} {E : Value → Shared → Prop} {s : Shared}
theorem sliceApplied_rev {sl : Addr} {vs : Value} {n : Nat} {Q : Int × Int × Nat → Shared → Prop} (hs : s.heap.IsSliceOf sl .none .none vs) (ps : IsPart vs (some (-1)))
    (h : Q ((n : Int) - 1, -1, n) s) : wpAny (model prog w) A (Builtin.Slice.sliceApplied (.ref sl) (pure (n : Int))) Q E s := by
  obtain ⟨os, hos, hcs, hds⟩ := id hs
  unfold Builtin.Slice.sliceApplied Builtin.Slice.sliceFields
  refine wpAny_bind (wpAny_bind (wpAny_field hos hds (x := .none) rfl (wpAny_bind (wpAny_field hos hds (x := .none) rfl (wpAny_bind (wpAny_field hos hds (x := vs) rfl (wpAny_pure ?_)))))))
  refine wpAny_bind (slicePart_ ps ?_)
  show wpAny _ _ (if ((-1 : Int) == 0) = true then _ else _) _ _ s
  rw [if_neg (by decide)]
  refine wpAny_bind (slicePart_none (wpAny_bind (slicePart_none (wpAny_bind (wpAny_pure ?_)))))
  show wpAny _ _ (match Builtin.Slice.sliceAdjust none none (-1) (n : Int) with | (lo, hi) => pure (lo, (-1 : Int), Builtin.Slice.slicePlaces lo hi (-1))) _ _ s
  rw [adjust_rev n]
  show wpAny _ _ (pure ((n : Int) - 1, (-1 : Int), Builtin.Slice.slicePlaces ((n : Int) - 1) (-1) (-1))) _ _ s
  rw [places_rev]
  exact wpAny_pure h
theorem getItem_tuple_rev {t sl : Addr} {items : Array Value} {vs : Value} {Q : Value → Shared → Prop} (ht : IsTup s.heap t items) (hs : s.heap.IsSliceOf sl .none .none vs) (ps : IsPart vs (some (-1)))
    (h : Q (.ref s.heap.objs.size) { s with heap := s.heap.push { cls := .type "tuple", data := .seq items.toList.reverse.toArray } })
    (hsz : items.size ≤ sizeLine) : wpAny (model prog w) A (getItem (.ref t) (.ref sl)) Q E s := by
  have htake : sizeOk (.seq items.toList.reverse.toArray) := by
    show items.toList.reverse.toArray.size ≤ sizeLine
    rw [List.size_toArray, List.length_reverse, Array.length_toList]
    omega
  obtain ⟨os, hos, hcs, hds⟩ := id hs
  have hTs : s.TypeIs (.ref sl) "slice" := ⟨os, hos, hcs⟩
  unfold getItem
  try with_reducible refine wpAny_holding ?_
  first | refine wpAny_bind (wpAny_pure ?_) | skip
  refine wpAny_bind (wpAny_sequenceKey ht.typeIs (by decide) ?_)
  refine wpAny_bind (wpAny_callSpecial?_slot (name := Str.ofString "__getitem__") ht.typeIs PyProof.Rows.slot_tuple_getitem
    (wpAny_call_entry PyProof.Rows.slot_tuple_getitem ht.typeIs entry_tuple_getitem ?_ (args_tuple_getitem _ _)))
  show wpAny _ _ (Builtin.Tuple.tupleItemsOf (.ref t) >>= _) _ _ s
  refine wpAny_bind (tupleItemsOf_ ht ?_)
  refine wpAny_bind (wpAny_typeOf hTs ?_)
  rw [if_pos (by decide)]
  refine wpAny_bind (sliceApplied_rev hs ps ?_)
  have hno : ¬ (((((items.size : Nat) : Int) - 1) == 0 && (-1 : Int) == 1 && items.size == items.size) = true) := by
    intro q
    rw [Bool.and_eq_true, Bool.and_eq_true] at q
    exact absurd q.1.2 (by decide)
  show wpAny _ _ (if ((((items.size : Nat) : Int) - 1) == 0 && (-1 : Int) == 1 && items.size == items.size) = true then _ else _) _ _ s
  rw [if_neg hno, pick_rev]
  first
    | exact wpAny_bind (m := Builtin.Tuple.tupleExact _) (wpAny_newObj_type (wpAny_pure ⟨_, rfl, wpAny_pure h⟩) htake)
    | exact wpAny_bind (m := Builtin.Tuple.tupleExact _) (wpAny_newObj_type (wpAny_bind (wpAny_pure (wpAny_pure ⟨_, rfl, wpAny_pure h⟩))) htake)
    | exact wpAny_bind (wpAny_bind (m := Builtin.Tuple.tupleExact _) (wpAny_newObj_type (wpAny_pure (wpAny_pure ⟨_, rfl, wpAny_pure h⟩)) htake))
    | exact wpAny_bind (wpAny_bind (m := Builtin.Tuple.tupleExact _) (wpAny_newObj_type (wpAny_pure ⟨_, rfl, wpAny_pure h⟩) htake))
end
end HT
namespace Ds
open PySem PySem.Spec PyProof.Rows L2 Dn
def rRev (K : Frag) : V → Hp → VK → Prop := fun x H Q => ∃ a xs, x = .ref a ∧ ((SqT K H a xs ∧ ∀ p, H p = none → Q (.ref p) (upd H p (.tup xs.reverse))) ∨ (SqL K H a xs ∧ ∀ p, H p = none → Q (.ref p) (upd H p (.lst xs.reverse))))
def tRev (K : Frag) (te : TE) : TE := fun σ H Q => te σ H fun x H1 => rRev K x H1 Q
section
variable {X : Cx} {e : Expr} {te : TE} {k : Nat} {p1 p2 p3 pos : Pos}
theorem pe_rev (he : PE X e te) : PE X (.Subscript e (.Slice none none (some (.UnaryOp .USub (.Constant (.int 1) k p1) p2)) p3) pos) (tRev X.K te) := by
  refine ⟨fun pins s σ H Q I h => ?_⟩
  refine Subscript_ (thn (he.run pins s σ H _ I h) fun v s1 ⟨x, H1, I1, r1, q1⟩ => ?_)
  obtain ⟨a, xs, ex, hx⟩ := q1
  subst ex
  cases r1
  have hst : PO X (some (.UnaryOp .USub (.Constant (.int 1) k p1) p2)) (tPart (tUn (rU fun i => .int (-i)) (tC (.int 1)))) := po_some (pe_un un_neg pe_int)
  refine wpAny_Slice (thn (po_none.run pins s1 σ H1 (fun o H2 => o = none ∧ H2 = H1) I1 ⟨rfl, rfl⟩) fun vl s2 ⟨l, H2, I2, pl, el, e2⟩ => ?_)
  subst el e2
  refine thn (po_none.run pins s2 σ H2 (fun o H3 => o = none ∧ H3 = H2) I2 ⟨rfl, rfl⟩) fun vu s3 ⟨u, H3, I3, pu, eu, e3⟩ => ?_
  subst eu e3
  refine thn (hst.run pins s3 σ H3 (fun o H4 => o = some (-1) ∧ H4 = H3) I3 ⟨1, rfl, -1, rfl, rfl, rfl⟩) fun vs s4 ⟨o, H4, I4, ps, eo, e4⟩ => ?_
  subst eo e4
  have I5 : Inv X pins σ H4 { s4 with heap := s4.heap.push { cls := .type "slice", data := .fields #[vl, vu, vs] } } := I4.kept (t' := s4.toks) fun b ob q => Heap.get?_push_of_some _ q
  show wpAny (model X.prog X.w) X.A (subscriptTail e (.Slice none none (some (.UnaryOp .USub (.Constant (.int 1) k p1) p2)) p3) (.ref a) (.ref s4.heap.objs.size)) (EP X pins σ Q) X.xe { s4 with heap := s4.heap.push { cls := .type "slice", data := .fields #[vl, vu, vs] } }
  rcases hx with ⟨hx, q⟩ | ⟨hx, q⟩
  · obtain ⟨its, r, ht, hz⟩ := I5.tuple hx
    have hlen := r.length
    cases pl
    cases pu
    refine tail_any (ops := [.ref a, .ref s4.heap.objs.size]) ht.typeIs (PyProof.Rows.slot_tuple_getitem.lookup) ?_ (by with_unfolding_all rfl)
    refine HT.getItem_tuple_rev ht (Heap.IsSliceOf.new _ _ _ vs) ps ?_ (by rw [List.size_toArray]; omega)
    refine ⟨.ref _, _, I5.laid (t' := s4.toks) (o := .tup xs.reverse) (fun b ob q => Heap.get?_push_of_some _ q) (Nat.le_refl _) ?_, rfl, q _ (I5.hok.fresh (Nat.le_refl _))⟩
    exact ⟨by rw [List.length_reverse]; exact hz, _, r.reverse, IsTup.new _ _⟩
  · obtain ⟨its, r, ht, hz⟩ := I5.list hx
    have hlen := r.length
    refine tail_any (ops := [.ref a, .ref s4.heap.objs.size]) ht.isList.typeIs (PySem.slot_list_getitem.lookup) ?_ (by with_unfolding_all rfl)
    refine wpAny_getItem_list_slice ht.isList (Heap.IsSliceOf.new _ vl vu vs) pl pu ps (by decide) ?_ (by rw [List.size_toArray]; omega)
    rw [PySem.W.krv_pick]
    refine ⟨.ref _, _, I5.laid (t' := s4.toks) (o := .lst xs.reverse) (fun b ob q => Heap.get?_push_of_some _ q) (Nat.le_refl _) ?_, rfl, q _ (I5.hok.fresh (Nat.le_refl _))⟩
    exact ⟨by rw [List.length_reverse]; exact hz, _, 0, r.reverse, Heap.get?_push_size _ rfl⟩
end
def dRev : D → Option D
  | .tuple xs => some (.tuple xs.reverse)
  | .list xs => some (.list xs.reverse)
  | _ => none
def mRev (m : M D) : M D := mBind m fun d => mOpt (dRev d)
theorem rps_rev {K : Frag} {H : Hp} : ∀ {vs : List V} {ds : List D}, Rps K H vs ds → Rps K H vs.reverse ds.reverse
  | _, _, .nil => .nil
  | _, _, .cons r t => by
    rw [List.reverse_cons, List.reverse_cons]
    exact (rps_rev t).append (.cons r .nil)
section
variable {X : Cx} {E : XQ} {e : Expr} {m : M D} {mc : M Cl} {k : Nat} {p1 p2 p3 pos : Pos}
theorem revS {K : Frag} {Hs H : Hp} {x : V} {d c : D} {Q : VK} (ex : Ex Hs H) (rx : Rp K Hs x d) (hg : dRev d = some c) (k : ∀ v Hs' H', Gr Hs H Hs' H' → Rp K Hs' v c → Q v H') : rRev K x H Q := by
  cases rx with
  | tup h t =>
    obtain rfl := Option.some.inj hg
    exact ⟨_, _, rfl, .inl ⟨sqT_ex ex h, fun p hp => k _ _ _ (Gr.new ex hp) (.tup (StT.of upd_same) ((rps_rev t).ex (Gr.new ex hp).s))⟩⟩
  | lst h t =>
    obtain rfl := Option.some.inj hg
    exact ⟨_, _, rfl, .inr ⟨sqL_ex ex h, fun p hp => k _ _ _ (Gr.new ex hp) (.lst (SqL.of upd_same) ((rps_rev t).ex (Gr.new ex hp).s))⟩⟩
  | _ => simp [dRev] at hg
theorem je_rev (he : PE X e (tOf X.K E m)) : PE X (.Subscript e (.Slice none none (some (.UnaryOp .USub (.Constant (.int 1) k p1) p2)) p3) pos) (tOf X.K E (mRev m)) :=
  pe_imp (pe_rev he) fun σ H Q ⟨G, g, δ, re, po⟩ => by
    refine tOf.step re po fun x d g1 H1 δ1 e1 re1 r1 po1 => ?_
    obtain ⟨c, hc, po4⟩ := Post.opt po1
    exact revS re1.ex r1 hc fun v Hs' H' w rv => Post.grow po4 re1 (Grw.of w) v rv
variable {o : Expr} {ml : M Nat} {mk : M D}
end
end Ds
namespace Ds
open PySem PySem.Spec PyProof.Rows L2 Dn
theorem KVs.none {K : Frag} {es : List DictEntry} {kvs : List (Str × D)} (h : KVs K es kvs) {z : Str} (q : lookS kvs z = none) : es.find? (·.key.isStr z) = none := by
  induction h with
  | nil => rfl
  | @cons e r x t v d0 kvs he hv hr _ ih =>
    have k1 : e.key.isStr z = (x == z) := by rw [he]; rfl
    unfold lookS at q ih
    rw [List.find?_cons] at q ⊢
    by_cases hx : x = z
    · rw [decide_eq_true hx] at q
      cases q
    · rw [decide_eq_false hx] at q
      have : (x == z) = false := by simpa using hx
      rw [k1, this]
      exact ih q
section
variable {X : Cx} {E : XQ} {e f o : Expr} {pos apos cpos : Pos} {m mz : M D} {ml : M Nat}
/-- o.f += n, o.f -= n -/
def mAugF (c : Str) (ml : M Nat) (f : Str) (F : Int → Int → Int) (k : Int) : M Fl := mBind ml fun l δ => match δ.s[l]? with
  | some (.ins c' fs) => if c' = c ∧ fs.length < 1000 then (match fs.lookup f with
    | some (.sh (.int i)) => .ok .nx ⟨δ.e, δ.s.set l (.ins c (putFC f (.sh (.int (F i k))) fs))⟩
    | _ => .bad) else .bad
  | _ => .bad
def rI2 (F : Int → Int → Int) : V → V → Hp → VK → Prop := fun x y H Q => ∃ i j, x = .int i ∧ y = .int j ∧ Q (.int (F i j)) H
theorem js_augF {c fl : Str} {C : Addr} {op : Operator} {F : Int → Int → Int} {k : Int} {tpos kp : Pos} {kk : Nat} (hC : clsA X.K c = some C) (hk : Cls X.K C) (n : NoAttr X.K C fl) (ho : PE X o (tOfL X.K E ml)) (hop : InOp X op (rI2 F)) : PS X (.AugAssign (.Attribute o fl tpos) op (.Constant (.int k) kk kp) pos) (tOfS X.K E (mAugF c ml fl F k)) :=
  pst_imp (ps_fldaug ho pe_int hop) fun B σ H ⟨G, g, δ, re, po⟩ => tOfL.stepS re po fun q l g2 H2 δ2 e2 re2 r2 po2 => by
    split at po2
    · rename_i c' fs hx
      split at po2
      · rename_i hc
        obtain ⟨hc, hl⟩ := hc
        subst hc
        obtain ⟨dx, vs, h1, h2⟩ := re2.insAt hC r2 hx
        split at po2
        · rename_i i hf
          rcases h2.look fl with ⟨z, _⟩ | ⟨v, y, k1, k2, k3⟩
          · rw [z] at hf; cases hf
          · rw [k1] at hf
            cases hf
            cases k3 with
            | sh k3 =>
              cases k3
              refine ⟨q, C, dx, vs, _, rfl, h1, hk, n, k2, ?_⟩
              refine ⟨_, _, rfl, rfl, dx, vs, h1, by rw [h2.length]; exact hl, PostS.of po2 (re2.write hx rfl r2 (.ins hC (h2.putF fl (.sh (.int _)))))⟩
        · exact po2.elim
      · exact po2.elim
    · exact po2.elim
end
end Ds
namespace Ds
open PySem PySem.Spec PyProof.Rows L2 Dn
section
variable {K : Frag} {G : Hp} {g : Gh} {H : Hp} {σ : L2.St} {δ : Sx}
theorem RE.lockK {l : Nat} {d : Addr} {kvs : List (Key × Cl)} {vs : List (Key × V)} (r : RE K G g H σ δ) (hx : δ.s[l]? = some (.dk kvs)) (ha : g.r[l]? = some d) (h2 : KR K g vs kvs) (od : Obj) :
    Le g ⟨g.r, upd g.h d (.frz od (.dK vs))⟩ ∧ RE K G ⟨g.r, upd g.h d (.frz od (.dK vs))⟩ (upd H d (.frz od (.dK vs))) σ ⟨δ.e, δ.s.set l (.fk kvs)⟩ := by
  obtain ⟨b, u, q1, q2, q3, q4⟩ := r.ob l _ hx rfl
  rw [ha] at q1
  obtain rfl := Option.some.inj q1
  have hlt : l < δ.s.length := (List.getElem?_eq_some_iff.mp hx).1
  have e : Ex g.h (upd g.h d (.frz od (.dK vs))) := ex_new q4
  have le : Le g ⟨g.r, upd g.h d (.frz od (.dK vs))⟩ := ⟨fun _ _ h => h, e⟩
  refine ⟨le, ?_⟩
  exact {
    ex := fun a o z => by
      have z : upd g.h d (.frz od (.dK vs)) a = some o := z
      by_cases h : a = d
      · subst h; rw [upd_same] at z ⊢; exact z
      · rw [upd_ne h] at z ⊢; exact r.ex a o z
    fg := fun a o z => by
      obtain ⟨f1, f2, f3⟩ := r.fg a o z
      have h : a ≠ d := fun w => f3 (w ▸ List.mem_of_getElem? ha)
      exact ⟨by rw [upd_ne h]; exact f1, by show upd g.h d _ a = none; rw [upd_ne h]; exact f2, f3⟩
    len := r.len
    rl := by rw [r.rl]; simp
    sl := fun i c z hc => by
      obtain ⟨v, h1, h2⟩ := r.sl i c z hc
      exact ⟨v, h1, h2.le le⟩
    ob := fun l' o z hl => by
      rcases setGet z with ⟨rfl, w⟩ | ⟨hj, w⟩
      · subst w; cases hl
      · obtain ⟨a, v, f1, f2, f3, f4⟩ := r.ob l' o w hl
        have h : a ≠ d := fun k => hj (nodup_at r.nd (k ▸ f1) ha)
        exact ⟨a, v, f1, by rw [upd_ne h]; exact f2, f3.le le, by show upd g.h d _ a = none; rw [upd_ne h]; exact f4⟩
    nd := r.nd
    al := fun a hm => by
      by_cases h : a = d
      · subst h; rw [upd_same]; simp
      · rw [upd_ne h]; exact r.al a hm
    nt := fun a xs z => by
      by_cases h : a = d
      · subst h; rw [upd_same] at z; cases z
      · rw [upd_ne h] at z; exact r.nt a xs z
    gx := r.gx
    fz := fun l' o1 z hz => by
      rcases setGet z with ⟨rfl, w⟩ | ⟨hj, w⟩
      · subst w
        exact ⟨d, od, _, ha, upd_same, (FzR.fk h2).le le⟩
      · obtain ⟨a, o, ws, f1, f2, f3⟩ := r.fz l' o1 w hz
        exact ⟨a, o, ws, f1, e _ _ f2, f3.le le⟩ }
theorem RE.unlockK {l : Nat} {d : Addr} {od : Obj} {kvs : List (Key × Cl)} {vs : List (Key × V)} (r : RE K G g H σ δ) (hx : δ.s[l]? = some (.fk kvs)) (ha : g.r[l]? = some d) (hd : g.h d = some (.frz od (.dK vs))) :
    RE K G ⟨g.r, offH g.h d⟩ (upd H d (.dK vs)) σ ⟨δ.e, δ.s.set l (.dk kvs)⟩ := by
  obtain ⟨b, o', ws, q1, q2, q3⟩ := r.fz l _ hx rfl
  rw [ha] at q1
  obtain rfl := Option.some.inj q1
  rw [hd] at q2
  cases q2
  obtain q3 : All2 (fun p q => p.1 = q.1 ∧ CR K g p.2 q.2) vs kvs := by cases q3 with | fk q3 => exact q3
  exact {
    ex := fun a o z => by
      have z : offH g.h d a = some o := z
      by_cases h : a = d
      · subst h; rw [offH_same] at z; cases z
      · rw [offH_ne h] at z; rw [upd_ne h]; exact r.ex a o z
    fg := fun a o z => by
      obtain ⟨f1, f2, f3⟩ := r.fg a o z
      have h : a ≠ d := fun w => f3 (w ▸ List.mem_of_getElem? ha)
      exact ⟨by rw [upd_ne h]; exact f1, by show offH g.h d a = none; rw [offH_ne h]; exact f2, f3⟩
    len := r.len
    rl := by rw [r.rl]; simp
    sl := fun i c z hc => by
      obtain ⟨v, h1, h2⟩ := r.sl i c z hc
      exact ⟨v, h1, h2.unl rfl hd⟩
    ob := fun l' o z hl => by
      rcases setGet z with ⟨rfl, w⟩ | ⟨hj, w⟩
      · subst w
        exact ⟨d, _, ha, upd_same, .dk (q3.imp fun _ _ k => ⟨k.1, k.2.unl rfl hd⟩), offH_same⟩
      · obtain ⟨a, v, f1, f2, f3, f4⟩ := r.ob l' o w hl
        have h : a ≠ d := fun k => hj (nodup_at r.nd (k ▸ f1) ha)
        exact ⟨a, v, f1, by rw [upd_ne h]; exact f2, f3.unl rfl hd, by show offH g.h d a = none; rw [offH_ne h]; exact f4⟩
    nd := r.nd
    al := fun a hm => by
      by_cases h : a = d
      · subst h; rw [upd_same]; simp
      · rw [upd_ne h]; exact r.al a hm
    nt := fun a xs z => by
      by_cases h : a = d
      · subst h; rw [upd_same] at z; cases z
      · rw [upd_ne h] at z; exact r.nt a xs z
    gx := r.gx
    fz := fun l' o1 z hz => by
      rcases setGet z with ⟨rfl, w⟩ | ⟨hj, w⟩
      · subst w; cases hz
      · obtain ⟨a, o, us, f1, f2, f3⟩ := r.fz l' o1 w hz
        have h : a ≠ d := fun k => hj (nodup_at r.nd (k ▸ f1) ha)
        exact ⟨a, o, us, f1, by show offH g.h d a = _; rw [offH_ne h]; exact f2, f3.unl rfl hd⟩ }
theorem Rp.key {K : Frag} {h : Hp} : ∀ (k : Key), Rp K h (kV k) (keyD k)
  | .inl i => .int i
  | .inr x => .str x
theorem Rps.keysL {K : Frag} {h0 : Hp} : ∀ {vs : List (Key × V)} {kvs : List (Key × Cl)} {g : Gh}, KR K g vs kvs → Rps K h0 (vs.map fun kv => kV kv.1) (kvs.map fun kv => keyD kv.1)
  | _, _, _, .nil => .nil
  | (p :: vs), (q :: kvs), _, .cons h t => .cons (by show Rp K h0 (kV p.1) (keyD q.1); rw [h.1]; exact Rp.key _) (Rps.keysL t)
/-- the keys of a locked dict -/
def keysK (kvs : List (Key × Cl)) : List D := kvs.map fun kv => keyD kv.1
theorem it_keysK {d : Addr} {od : Obj} {vs : List (Key × V)} {kvs : List (Key × Cl)} {Hs : Hp} (hd : Hs d = some (.frz od (.dK vs))) (r : KR K g vs kvs) : ItOk K Hs (Itk d od vs) (keysK kvs) := fun Hs1 H1 e1 e2 i => by
  have hd1 : H1 d = some (.frz od (.dK vs)) := e2 _ _ (e1 _ _ hd)
  refine ⟨fun x hx => ?_, fun hn => ⟨hd1, ?_⟩⟩
  · unfold keysK at hx
    rw [List.getElem?_map] at hx
    obtain ⟨kv, h1, rfl⟩ := Option.map_eq_some_iff.mp hx
    obtain ⟨p, h2, h3⟩ := All2.get r h1
    have hi := (List.getElem?_eq_some_iff.mp h2).1
    refine ⟨⟨hd1, hi⟩, fun y H2 hy => ?_⟩
    obtain ⟨rfl, k, v, k1, rfl⟩ := hy
    rw [h2] at k1
    cases k1
    have hk : k = kv.1 := h3.1
    subst hk
    exact ⟨_, Gs.of (.refl e2), Rp.key kv.1⟩
  · unfold keysK at hn
    rw [List.getElem?_map, Option.map_eq_none_iff, List.getElem?_eq_none_iff] at hn
    have := All2.length r
    omega
end
section
variable {X : Cx} {E : XQ} {tg e : Expr} {pos : Pos} {ml p : M Nat}
def mKeysK (ml : M Nat) : M (List D) := mBind ml fun l δ => match δ.s[l]? with
  | some (.fk kvs) => .ok (keysK kvs) δ
  | _ => .bad
theorem ji_keysK (ho : PE X e (tOfL X.K E ml)) : PI X tg e (tOfI X.K E (mKeysK ml)) :=
  pi_imp (pi_keys ho) fun σ H R ⟨G, g, δ, re, po⟩ => tOfL.step re po fun q l g1 H1 δ1 e1 re1 r1 po1 => by
    split at po1
    · rename_i kvs hx
      obtain ⟨a, o, u, h1, h2, h3⟩ := re1.fz l _ hx rfl
      rw [r1] at h1
      cases h1
      cases h3 with
      | @fk _ vs h3 => exact ⟨q, o, rfl, .inl ⟨vs, re1.ex _ _ h2, Post.of po1 re1 _ (it_keysK h2 h3)⟩⟩
    · exact po1.elim
/-- while the dict at p is locked -/
def mLockK {α : Type} (p : M Nat) (m : M α) : M α := fun δ => match p δ with
  | .ok l _ => (match δ.s[l]? with
    | some (.dk kvs) => (match m ⟨δ.e, δ.s.set l (.fk kvs)⟩ with
      | .ok x δ' => (match δ'.s[l]? with
        | some (.fk kvs') => .ok x ⟨δ'.e, δ'.s.set l (.dk kvs')⟩
        | _ => .bad)
      | _ => .bad)
    | _ => .bad)
  | _ => .bad
theorem jo_lockK {m : M (List Cl)} (h : PE X e (tOfO X.K E m)) : PE X e (tOfO X.K E (mLockK p m)) :=
  pe_imp (pe_lock h) fun σ H Q ⟨G, g, δ, re, po⟩ => by
    unfold mLockK at po
    split at po
    · rename_i l _ _
      split at po
      · rename_i kvs hx
        obtain ⟨d, u, h1, h2, h3, h4⟩ := re.ob l _ hx rfl
        cases h3 with
        | @dk _ vs h3 =>
          refine ⟨d, _, h2, trivial, fun od => ?_⟩
          obtain ⟨le, rl⟩ := re.lockK hx h1 h3 od
          refine ⟨G, _, _, rl, ?_⟩
          cases qm : m ⟨δ.e, δ.s.set l (.fk kvs)⟩ with
          | ok x δ' =>
            rw [qm] at po
            dsimp only at po
            cases qx : δ'.s[l]? with
            | none => rw [qx] at po; exact po.elim
            | some o' =>
              rw [qx] at po
              cases o' with
              | fk kvs' =>
                dsimp only at po
                intro g2 H2 e2 re2 a fa
                have ha : g2.r[l]? = some d := e2.r _ _ h1
                have hd : g2.h d = some (.frz od (.dK vs)) := e2.h _ _ upd_same
                refine ⟨re2.ex _ _ hd, ?_⟩
                have re3 := re2.unlockK qx ha hd
                have gd : G d = none := by
                  cases z : G d with
                  | none => rfl
                  | some w => exact absurd (List.mem_of_getElem? h1) (re.fg d w z).2.2
                have le3 : Le g ⟨g2.r, offH g2.h d⟩ := ⟨fun l a h => e2.r _ _ h, fun b w hb => by
                  have hne : b ≠ d := fun z => by subst z; rw [h4] at hb; cases hb
                  show offH g2.h d b = some w
                  rw [offH_ne hne]
                  exact e2.h _ _ (le.h _ _ hb)⟩
                obtain ⟨⟨ws, k1, k2⟩, k3, k4, k5⟩ := fa
                have hne : a ≠ d := fun z => k5 (z ▸ List.mem_of_getElem? ha)
                exact po _ _ le3 re3 a ⟨⟨ws, by rw [upd_ne hne]; exact k1, k2.imp fun _ _ k => k.unl rfl hd⟩, by show offH g2.h d a = none; rw [offH_ne hne]; exact k3, k4, k5⟩
              | _ => exact po.elim
          | exc y δ' => rw [qm] at po; exact po.elim
          | bad => rw [qm] at po; exact po.elim
      · exact po.elim
    · exact po.elim
end
/-- d[k], d locked -/
def mDGetF (ml : M Nat) (mk : M D) : M Cl := mBind ml fun l => mBind mk fun e δ => match δ.s[l]?, toK e with
  | some (.fk kvs), some k => match valC kvs k with
    | some c => .ok c δ
    | none => .bad
  | _, _ => .bad
theorem RE.fkAt {K : Frag} {G : Hp} {g : Gh} {H : Hp} {σ : L2.St} {δ : Sx} (r : RE K G g H σ δ) {l : Nat} {a : Addr} {xs : List (Key × Cl)} (h : g.r[l]? = some a) (hx : δ.s[l]? = some (.fk xs)) : ∃ vs, Rd H a (.dK vs) ∧ KR K g vs xs := by
  obtain ⟨b, o, u, k1, k2, k3⟩ := r.fz l _ hx rfl
  rw [h] at k1
  cases k1
  cases k3 with
  | @fk _ vs k3 => exact ⟨vs, .inr ⟨o, r.ex _ _ k2⟩, k3⟩
section
variable {X : Cx} {E : XQ} {a b e o f : Expr} {pos : Pos} {m mk mx : M D} {mc : M Cl} {ml : M Nat} {m1 m2 : M Fl}
theorem jc_dgetF (hu : X.A.units + 64 < cLine) (ho : PE X o (tOfL X.K E ml)) (hi : PE X e (tOf X.K E mk)) (hs : NoSl e) : PE X (.Subscript o e pos) (tOfC X.K E (mDGetF ml mk)) :=
  pe_imp (pe_dget (by omega) ho hi hs) fun σ H Q ⟨G, g, δ, re, po⟩ => tOfL.step re po fun q l g1 H1 δ1 e1 re1 r1 po1 => tOf.step re1 po1 fun y d g2 H2 δ2 e2 re2 r2 po2 => by
    split at po2
    · rename_i kvs k hx hk
      split at po2
      · rename_i c hc
        obtain ⟨vs, h1, h2⟩ := re2.fkAt (e2.r _ _ r1) hx
        obtain ⟨v, h3, h4⟩ := h2.some hc
        refine ⟨q, v, rfl, ?_, Post.of po2 re2 v h4⟩
        rw [toK_v r2 hk, ← h3]
        exact .inl ⟨vs, k, h1, rfl, rfl⟩
      · exact po2.elim
    · exact po2.elim
/-- x.pop() -/
def mPop0 (ml : M Nat) : M Cl := mBind (mIsL ml) fun l δ => match δ.s[l]? with
  | some (.lst xs) => match xs[xs.length - 1]? with
    | some c => .ok c ⟨δ.e, δ.s.set l (.lst xs.dropLast)⟩
    | none => .bad
  | _ => .bad
theorem all2_dropLast {α β : Type} {R : α → β → Prop} : ∀ {xs : List α} {ys : List β}, All2 R xs ys → All2 R xs.dropLast ys.dropLast
  | _, _, .nil => .nil
  | _, _, .cons _ .nil => .nil
  | _, _, .cons h (.cons h2 t) => .cons h (all2_dropLast (.cons h2 t))
theorem jc_pop0 {apos cpos : Pos}
    {PE0 : PE X (.Call (.Attribute o "pop" apos) [] [] cpos) (tBM0 X.K "list" rPop (tOfL X.K E ml))} : PE X (.Call (.Attribute o "pop" apos) [] [] cpos) (tOfC X.K E (mPop0 ml)) :=
  pe_imp PE0 fun σ H Q ⟨G, g, δ, re, po⟩ => by
    show tBM0 _ _ _ _ _ _ _
    unfold tBM0
    refine isL re po fun q l g1 H1 δ1 e1 re1 r1 ht po1 => ⟨ht, ?_⟩
    split at po1
    · rename_i xs hx
      split at po1
      · rename_i c hc
        obtain ⟨vs, h1, h2⟩ := re1.lstAt r1 hx
        obtain ⟨v', h3, h4⟩ := h2.get hc
        have hl := h2.length
        refine ⟨q, vs, v', rfl, rfl, h1, by rw [hl]; exact h3, ?_⟩
        exact Post.of po1 (re1.write hx rfl r1 (.lst (all2_dropLast h2))) v' h4
      · exact po1.elim
    · exact po1.elim
/-- d.pop(k, x) -/
def mDPop2 (ml : M Nat) (mk : M D) (mc : M Cl) : M Cl := mBind ml fun l => mBind (isDk l) fun l => mBind mk fun e => mBind mc fun z δ => match δ.s[l]?, toK e with
  | some (.dk kvs), some k => match valC kvs k with
    | some c => .ok c ⟨δ.e, δ.s.set l (.dk (dropC kvs k))⟩
    | none => .ok z δ
  | _, _ => .bad
theorem jc_dpop2 {apos cpos : Pos} (ho : PE X o (tOfL X.K E ml)) (he : PE X e (tOf X.K E mk)) (hf : PE X f (tOfC X.K E mc)) (m : M2 X o "pop" apos e f cpos) : PE X (.Call (.Attribute o "pop" apos) [e, f] [] cpos) (tOfC X.K E (mDPop2 ml mk mc)) :=
  pe_imp (pe_dpop2 ho he hf m) fun σ H Q ⟨G, g, δ, re, po⟩ => tOfL.step re po fun q l g1 H1 δ1 e1 re1 r1 po1 => by
    obtain ⟨xs0, hx0, po1⟩ := isDk_po po1
    obtain ⟨vs0, k1, k2⟩ := re1.dkAt r1 hx0
    refine ⟨q, rfl, .inl ⟨vs0, .inl k1⟩, tOf.step re1 po1 fun y d g2 H2 δ2 e2 re2 r2 po2 => tOfC.step re2 po2 fun w z g3 H3 δ3 e3 re3 r3 po3 => ?_⟩
    split at po3
    · rename_i kvs k hx hk
      have hq := e3.r _ _ (e2.r _ _ r1)
      obtain ⟨vs, h1, h2⟩ := re3.dkAt hq hx
      refine ⟨vs, k, h1, toK_v r2 hk, fun v hv => ?_, fun hv => ?_⟩
      · rcases h2.val k with ⟨a1, a2⟩ | ⟨v', c, a1, a2, a3⟩
        · rw [a2] at hv; cases hv
        · rw [a2] at hv
          cases hv
          rw [a1] at po3
          exact Post.of po3 (re3.write hx rfl hq (.dk (h2.drop k))) v a3
      · rcases h2.val k with ⟨a1, a2⟩ | ⟨v', c, a1, a2, a3⟩
        · rw [a1] at po3; exact Post.of po3 re3 w r3
        · rw [a2] at hv; cases hv
    · exact po3.elim
/-- list(d) -/
def mListD (ml : M Nat) : M (List Cl) := mBind (evA [mLo ml]) fun cs δ => match cs with
  | [.lo l] => match δ.s[l]? with
    | some (.dk kvs) => .ok ((kvs.map fun kv => keyD kv.1).map Cl.sh) δ
    | _ => .bad
  | _ => .bad
theorem jo_listD {p : Pos} (hc : X.calm = true) (hg : Gl X "list") (hm : X.mg "list" = none) (hv : bootBuiltins "list" = some (.type "list")) (h : PE X e (tOfL X.K E ml))
    (he : starEach [e] X.env = (false, eval e X.env) :: starEach [] X.env := by rfl) (hpl : (backTo pos (starEach [] X.env)).any (·.1) = false := by rfl) : PE X (.Call (.Name "list" p) [e] [] pos) (tOfO X.K E (mListD ml)) :=
  pe_imp (pe_callTy (call_listD hc) hg hm hv (ja_c (jc_lo h) ja_nil he) (by decide) (by decide) he hpl) fun σ H Q ⟨G, g, δ, re, po⟩ => by
    refine tOfA.step re po fun vs cs g1 H1 δ1 e1 re1 r1 po1 => ?_
    split at po1
    · rename_i l
      split at po1
      · rename_i kvs hx
        cases r1 with
        | cons h t =>
          cases t with
          | nil =>
            cases h with
            | @lo _ q h =>
              obtain ⟨ws, h1, h2⟩ := re1.dkAt h hx
              exact ⟨q, ws, rfl, .inl h1, fun l hl => Post.late po1 re1 (ex_new hl) l (FrO.new re1 hl (rps_cr (Rps.keysL h2)))⟩
      · exact po1.elim
    · exact po1.elim
end
end Ds
namespace Ds
open PySem PySem.Spec PyProof.Rows L2 Dn
def sgnV (z : Str) : List V := z.cps.toList.map fun c => V.str ⟨#[c]⟩
theorem call_listT {X : Cx} (hc : X.calm = true) : CallR X (.type "list") (fun xs H Q => ∃ z, xs = [.str z] ∧ z.length ≤ sizeLine ∧ ∀ q, H q = none → Q (.ref q) (upd H q (.lst (sgnV z)))) := by
  intro pins s σ H xs us Q I r h
  obtain ⟨z, rfl, hz, q⟩ := h
  obtain ⟨u, rfl, t, rfl⟩ := vals1 r
  refine call_list_str (I.ok.hd hc) z t (fun h' tk acc c' hk e hi => ?_) hz
  have hl : (sgnV z).length = z.cps.size := by unfold sgnV; rw [List.length_map, Array.length_toList]
  refine ⟨.ref s.heap.objs.size, upd H s.heap.objs.size (.lst (sgnV z)), I.laid hk (Nat.le_refl _) ⟨by rw [hl]; exact hz, acc.toList, c', ?_, by rw [Array.toArray_toList]; exact e⟩, rfl, q _ (I.hok.fresh (Nat.le_refl _))⟩
  refine vals_of_idx _ _ (by rw [hl, Array.length_toList]; exact hi.1) fun j u hj => ?_
  obtain ⟨c, t', hc, rfl⟩ := hi.2 j u (by rw [← Array.getElem?_toList]; exact hj)
  exact ⟨.str ⟨#[c]⟩, by unfold sgnV; rw [List.getElem?_map, Array.getElem?_toList, hc]; rfl, ⟨_, rfl⟩⟩
theorem call_listA {X : Cx} (hc : X.calm = true) : CallR X (.type "list") (fun xs H Q => (∃ z, xs = [.str z] ∧ z.length ≤ sizeLine ∧ ∀ q, H q = none → Q (.ref q) (upd H q (.lst (sgnV z)))) ∨ (∃ p ys, xs = [.ref p] ∧ (SqL X.K H p ys ∨ SqT X.K H p ys) ∧ ∀ l, H l = none → Q (.ref l) (upd H l (.lst ys)))) := CallR.or (call_listT hc) call_list_of
def bListS : List D → Option D
  | [.str z] => if z.length ≤ sizeLine then some (.list (sgnD z)) else none
  | [.list xs] => some (.list xs)
  | [.tuple xs] => some (.list xs)
  | _ => none
theorem rps_sgnV {K : Frag} {H : Hp} (z : Str) : Rps K H (sgnV z) (sgnD z) := by
  unfold sgnV sgnD
  generalize z.cps.toList = l
  induction l with
  | nil => exact .nil
  | cons c l ih => exact .cons (.str _) ih
theorem cs_listS {K : Frag} : CallS K (fun xs H Q => (∃ z, xs = [.str z] ∧ z.length ≤ sizeLine ∧ ∀ q, H q = none → Q (.ref q) (upd H q (.lst (sgnV z)))) ∨ (∃ p ys, xs = [.ref p] ∧ (SqL K H p ys ∨ SqT K H p ys) ∧ ∀ l, H l = none → Q (.ref l) (upd H l (.lst ys)))) bListS := fun Hs H vs ds c Q ex t hg k => by
  cases t with
  | nil => simp [bListS] at hg
  | cons r t =>
    cases t with
    | cons _ _ => cases r <;> simp [bListS] at hg
    | nil =>
      cases r with
      | str z =>
        have hg : (if z.length ≤ sizeLine then some (PyData.list (sgnD z)) else none) = some c := hg
        split at hg
        · rename_i hz
          obtain rfl := Option.some.inj hg
          exact .inl ⟨z, rfl, hz, fun p hp => k _ _ _ (Gr.new ex hp) (.lst (SqL.of upd_same) (rps_sgnV z))⟩
        · cases hg
      | lst h t =>
        obtain rfl := Option.some.inj hg
        exact .inr ⟨_, _, rfl, .inl (sqL_ex ex h), fun p hp => k _ _ _ (Gr.new ex hp) (.lst (SqL.of upd_same) (t.ex (Gr.new ex hp).s))⟩
      | tup h t =>
        obtain rfl := Option.some.inj hg
        exact .inr ⟨_, _, rfl, .inr (sqT_ex ex h), fun p hp => k _ _ _ (Gr.new ex hp) (.lst (SqL.of upd_same) (t.ex (Gr.new ex hp).s))⟩
      | _ => simp [bListS] at hg
end Ds
namespace Ds
open PySem PySem.Spec PyProof.Rows L2 Dn
/-- what an exception is as data: its class, by the class's name -/
def XD (num : Option Int) (d : Option Addr) (H : Hp) : Prop := match num with
  | none => d = none
  | some n => ∃ (dx : Addr) (fs : List (Str × V)), d = some dx ∧ H dx = some (.xd fs) ∧ fs.lookup ("number" : Str) = some (V.int n)
def XR (K : Frag) (y : Exn) (cls : Value) (d : Option Addr) (H : Hp) : Prop := ∃ C, clsA K y.cls = some C ∧ cls = .ref C ∧ XD y.num d H
section
variable {X : Cx} {E : XQ} {E0 : XK} {F : Fn} {as : List (M Cl)} {k n : Nat} {f C : Addr} {fd : FuncData} {pr : List Str} {x m c : Str} {e o : Expr} {es : List Expr} {p p2 pos pos' apos : Pos} {j : Nat}
def mRaise (x : Str) : M Fl := fun δ => .exc ⟨x, none⟩ δ
def mCallX (F : Fn) (as : List (M Cl)) : M Cl := mBind (evA as) fun cs δ => match F cs δ.s with
  | .ok c s' => .ok c ⟨δ.e, s'⟩
  | .exc x s' => .exc x ⟨δ.e, s'⟩
  | .bad => .bad
/-- o.m(..), m may raise: where the wish is the def's own -/
def mMethX (c m : Str) (F : Fn) (ml : M Nat) (as : List (M Cl)) : M Cl := mBind ml fun l => mBind (isIns c m l) fun l => mBind (evA as) fun cs δ => match F (.lo l :: cs) δ.s with
  | .ok x s' => .ok x ⟨δ.e, s'⟩
  | .exc y s' => .exc y ⟨δ.e, s'⟩
  | .bad => .bad
def xs (K : Frag) (E0 : XK) : XK := fun cls d H => ∃ y, XR K y cls d H ∧ ∀ cls d, XR K y cls d H → E0 cls d H
variable {fa : Addr} {ml : M Nat}
end
end Ds
namespace Ds
open PySem PySem.Spec PyProof.Rows L2 Dn
theorem XD.ex {num : Option Int} {d : Option Addr} {H H' : Hp} (e : Ex H H') (h : XD num d H) : XD num d H' := by
  cases num with
  | none => exact h
  | some n =>
    obtain ⟨dx, fs, h1, h2, h3⟩ := h
    exact ⟨dx, fs, h1, e _ _ h2, h3⟩
/-- in an except suite: slot i holds the exception a that was caught, its dict d stands -/
def CfK {α : Type} (K : Frag) (i : Nat) (a : Addr) (num : Option Int) (d : Option Addr) (m : M α) (σ : L2.St) (H : Hp) (Q : Hp → α → Gh → Hp → Sx → Prop) : Prop :=
  σ[i]? = some (some (.ref a)) ∧ ∃ (G : Hp) (g : Gh) (δ : Sx), RE K G g H σ δ ∧ XD num d g.h ∧ Post K noX G g σ (m δ) (Q G)
section
variable {X : Cx} {i j : Nat} {a : Addr} {num : Option Int} {d : Option Addr} {e b c : Expr} {es : List Expr} {st : Stmt} {rest : List Stmt} {pos : Pos} {m ma mb : M D} {mc : M Cl} {m1 m2 : M Fl} {t1 t2 : M Bool} {K : Frag} {G : Hp} {g : Gh} {H : Hp} {σ : L2.St} {δ : Sx}
theorem CfK.step {α β : Type} {ma : M α} {f : α → M β} {QQ : β → Gh → Hp → Sx → Prop} {R : Hp → α → Gh → Hp → Sx → Prop} (hs : σ[i]? = some (some (.ref a))) (re : RE K G g H σ δ) (xd : XD num d g.h) (po : Post K noX G g σ (mBind ma f δ) QQ)
    (k : ∀ x g1 H1 δ1, Le g g1 → RE K G g1 H1 σ δ1 → XD num d g1.h → Post K noX G g1 σ (f x δ1) QQ → R G x g1 H1 δ1) : CfK K i a num d ma σ H R := by
  refine ⟨hs, G, g, δ, re, xd, ?_⟩
  unfold mBind at po
  cases h : ma δ with
  | ok x δ1 =>
    rw [h] at po
    exact fun g' H' e r => k x g' H' δ1 e r (xd.ex e.h) (Post.ex po e)
  | exc x δ1 =>
    rw [h] at po
    exact po
  | bad =>
    rw [h] at po
    exact po
end
end Ds
namespace Ds
open PySem PySem.Spec PyProof.Rows L2 Dn
section
variable {X : Cx} {a D : Addr} {oe : Obj} {num : Option Int} {d : Option Addr} {pn : List (Addr × Obj)}
def mIsB (o : Option Bool) : M Dn.D := mOpt (o.map PyData.bool)
variable {i : Nat} {n : Str} {p p1 p2 pos : Pos} {cv : V} {cu : Value} {ec : Expr} {es : List Expr} {t : TA} {cs : List V} {us : List Value} {o : Option Bool} {xc : Nat}
/-- e.number -/
def mNum (num : Option Int) : M Dn.D := mOpt (num.map PyData.int)
end
end Ds
namespace Ds
open PySem PySem.Spec PyProof.Rows L2 Dn
/-- raise C(n) -/
def mRaiseN (x : Str) (m : M D) : M Fl := mBind m fun d δ => match d with
  | .int n => .exc ⟨x, some n⟩ δ
  | _ => .bad
end Ds
namespace Ds
open PySem PySem.Spec PyProof.Rows L2 Dn
abbrev Ev := List Cl
abbrev St := List Ob
/-- a run: what holds behind it, Y where it raises -/
@[irreducible] def RunX {α : Type} (Y : Exn → Ev → St → Prop) (m : M α) (e : Ev) (s : St) (Q : α → Ev → St → Prop) : Prop := match m ⟨e, s⟩ with
  | .ok a x => Q a x.e x.s
  | .exc y x => Y y x.e x.s
  | .bad => False
@[irreducible] def FRunX (Y : Exn → St → Prop) (F : Fn) (as : Ev) (s : St) (Q : Cl → St → Prop) : Prop := match F as s with
  | .ok c s' => Q c s'
  | .exc y s' => Y y s'
  | .bad => False
def NoY : Exn → Ev → St → Prop := fun _ _ _ => False
def NoF : Exn → St → Prop := fun _ _ => False
abbrev Run {α : Type} (m : M α) (e : Ev) (s : St) (Q : α → Ev → St → Prop) : Prop := RunX NoY m e s Q
abbrev FRun (F : Fn) (as : Ev) (s : St) (Q : Cl → St → Prop) : Prop := FRunX NoF F as s Q
section
variable {α β : Type} {e : Ev} {s : St} {m : M D} {Y : Exn → Ev → St → Prop} {YF : Exn → St → Prop}
theorem Run.i {m : M α} {Q : α → Ev → St → Prop} (h : match m ⟨e, s⟩ with
  | .ok a x => Q a x.e x.s
  | .exc y x => Y y x.e x.s
  | .bad => False) : RunX Y m e s Q := by unfold RunX; exact h
theorem run_pure {a : α} {Q : α → Ev → St → Prop} (h : Q a e s) : RunX Y (mPure a) e s Q := Run.i h
theorem RunX.mono {m : M α} {Q Q' : α → Ev → St → Prop} (h : RunX Y m e s Q) (k : ∀ a e' s', Q a e' s' → Q' a e' s') : RunX Y m e s Q' := by
  unfold RunX at *
  cases q : m ⟨e, s⟩ with
  | ok a x => rw [q] at h; exact k a x.e x.s h
  | exc y x => rw [q] at h; exact h
  | bad => rw [q] at h; exact h
theorem FRunX.mono {F : Fn} {as : Ev} {Q Q' : Cl → St → Prop} (h : FRunX YF F as s Q) (k : ∀ a s', Q a s' → Q' a s') : FRunX YF F as s Q' := by
  unfold FRunX at *
  cases q : F as s with
  | ok a x => rw [q] at h; exact k a x h
  | exc y x => rw [q] at h; exact h
  | bad => rw [q] at h; exact h
theorem FRunX.to {F : Fn} {as : Ev} {Q : Cl → St → Prop} (h : FRunX NoF F as s Q) : ∃ c s', F as s = .ok c s' ∧ Q c s' := by
  unfold FRunX at h
  cases q : F as s with
  | ok a x => rw [q] at h; exact ⟨a, x, rfl, h⟩
  | exc y x => rw [q] at h; exact h.elim
  | bad => rw [q] at h; exact h.elim
theorem run_bind {m : M α} {f : α → M β} {Q : β → Ev → St → Prop} (h : RunX Y m e s fun a e' s' => RunX Y (f a) e' s' Q) : RunX Y (mBind m f) e s Q := by
  unfold RunX at *
  unfold mBind
  cases q : m ⟨e, s⟩ with
  | ok a x => rw [q] at h; exact h
  | exc y x => rw [q] at h; exact h
  | bad => rw [q] at h; exact h
theorem run_opt {o : Option α} {Q : α → Ev → St → Prop} (h : ∃ a, o = some a ∧ Q a e s) : RunX Y (mOpt o) e s Q := by
  obtain ⟨a, h1, h2⟩ := h
  subst h1
  exact Run.i h2
theorem run_optB {o : Option α} {f : α → M β} {Q : β → Ev → St → Prop} (h : ∃ a, o = some a ∧ RunX Y (f a) e s Q) : RunX Y (mBind (mOpt o) f) e s Q := run_bind (run_opt h)
theorem run_var {i : Nat} {d : D} {Q : D → Ev → St → Prop} (h : e[i]? = some (Cl.sh d)) (k : Q d e s) : RunX Y (mVar i) e s Q := by
  unfold RunX mVar
  dsimp only
  rw [h]
  exact k
theorem run_lv {i l : Nat} {Q : Nat → Ev → St → Prop} (h : e[i]? = some (Cl.lo l)) (k : Q l e s) : RunX Y (mLV i) e s Q := by
  unfold RunX mLV
  dsimp only
  rw [h]
  exact k
theorem run_clD {i : Nat} {d : D} {Q : Cl → Ev → St → Prop} (h : e[i]? = some (Cl.sh d)) (k : Q (.sh d) e s) : RunX Y (mCl i) e s Q := by
  unfold RunX mCl
  dsimp only
  rw [h]
  exact k
theorem run_clL {i l : Nat} {Q : Cl → Ev → St → Prop} (h : e[i]? = some (Cl.lo l)) (k : Q (.lo l) e s) : RunX Y (mCl i) e s Q := by
  unfold RunX mCl
  dsimp only
  rw [h]
  exact k
theorem run_sh {Q : Cl → Ev → St → Prop} (h : RunX Y m e s fun d e' s' => Q (.sh d) e' s') : RunX Y (mSh m) e s Q := run_bind (h.mono fun _ _ _ h => run_pure h)
theorem run_lo {m : M Nat} {Q : Cl → Ev → St → Prop} (h : RunX Y m e s fun d e' s' => Q (.lo d) e' s') : RunX Y (mLo m) e s Q := run_bind (h.mono fun _ _ _ h => run_pure h)
theorem run_d {m : M Cl} {Q : D → Ev → St → Prop} (h : RunX Y m e s fun c e' s' => ∃ d, toD c = some d ∧ Q d e' s') : RunX Y (mD m) e s Q := run_bind (h.mono fun _ _ _ h => run_opt h)
theorem run_l {m : M Cl} {Q : Nat → Ev → St → Prop} (h : RunX Y m e s fun c e' s' => ∃ d, toL c = some d ∧ Q d e' s') : RunX Y (mL m) e s Q := run_bind (h.mono fun _ _ _ h => run_opt h)
theorem run_c {d : D} {Q : D → Ev → St → Prop} (k : Q d e s) : RunX Y (mC d) e s Q := run_pure k
theorem run_bin {g : D → D → Option D} {ma mb : M D} {Q : D → Ev → St → Prop} (h : RunX Y ma e s fun d e1 s1 => RunX Y mb e1 s1 fun c e2 s2 => ∃ r, g d c = some r ∧ Q r e2 s2) : RunX Y (mBin g ma mb) e s Q :=
  run_bind (h.mono fun _ _ _ h => run_bind (h.mono fun _ _ _ h => run_opt h))
theorem run_test {Q : Bool → Ev → St → Prop} (h : RunX Y m e s fun d e1 s1 => ∃ b, toB d = some b ∧ Q b e1 s1) : RunX Y (mTest m) e s Q := run_bind (h.mono fun _ _ _ h => run_opt h)
theorem run_chain {g g' : D → D → Option D} {ma mb mc : M D} {Q : D → Ev → St → Prop} (h : RunX Y ma e s fun d e1 s1 => RunX Y mb e1 s1 fun c e2 s2 => ∃ r, g d c = some r ∧ ∃ b, toB r = some b ∧ (b = true → RunX Y mc e2 s2 fun f e3 s3 => ∃ r, g' c f = some r ∧ Q r e3 s3) ∧ (b = false → Q (.bool false) e2 s2)) : RunX Y (mChain g g' ma mb mc) e s Q :=
  run_bind (h.mono fun d _ _ h => run_bind (h.mono fun c _ _ ⟨r, h1, b, h2, h3, h4⟩ => run_optB ⟨b, by rw [h1]; exact h2, by
    cases b with
    | true => exact run_bind ((h3 rfl).mono fun _ _ _ h => run_opt h)
    | false => exact run_pure (h4 rfl)⟩))
theorem run_ag0 {Q : List Cl → Ev → St → Prop} (k : Q [] e s) : RunX Y (evA []) e s Q := Run.i k
theorem run_agC {m : M Cl} {as : List (M Cl)} {Q : List Cl → Ev → St → Prop} (h : RunX Y m e s fun c e1 s1 => RunX Y (evA as) e1 s1 fun cs e2 s2 => Q (c :: cs) e2 s2) : RunX Y (evA (m :: as)) e s Q := run_bind (h.mono fun _ _ _ h => run_bind (h.mono fun _ _ _ h => run_pure h))
theorem run_callB {g : List D → Option D} {as : List (M Cl)} {Q : D → Ev → St → Prop} (h : RunX Y (evA as) e s fun cs e1 s1 => ∃ ds, shL cs = some ds ∧ ∃ c, g ds = some c ∧ Q c e1 s1) : RunX Y (mCallB g as) e s Q :=
  run_bind (h.mono fun cs _ _ ⟨ds, h1, c, h2, h3⟩ => run_opt ⟨c, by rw [h1]; exact h2, h3⟩)
theorem run_callC {g : List D → Option D} {as : List (M Cl)} {Q : D → Ev → St → Prop} (h : RunX Y (evA as) e s fun cs e1 s1 => ∃ ds, snaps s1 cs = some ds ∧ ∃ c, g ds = some c ∧ flatD c = true ∧ Q c e1 s1) : RunX Y (mCallC g as) e s Q :=
  run_bind (h.mono fun cs _ _ ⟨ds, h1, c, h2, h3, h4⟩ => Run.i (by
    dsimp only
    rw [h1, Option.bind_some, h2]
    dsimp only
    rw [if_pos h3]
    exact h4))
theorem run_call {F : Fn} {as : List (M Cl)} {Q : Cl → Ev → St → Prop} (h : RunX Y (evA as) e s fun cs e1 s1 => FRunX NoF F cs s1 fun c s2 => Q c e1 s2) : RunX Y (mCall F as) e s Q :=
  run_bind (h.mono fun cs e1 s1 h => Run.i (by
    obtain ⟨c, s2, h1, h2⟩ := h.to
    dsimp only
    rw [h1]
    exact h2))
theorem run_ixC {m : M D} {mc : M Cl} {Q : Cl → Ev → St → Prop} (h : RunX Y mc e s fun c e1 s1 => RunX Y m e1 s1 fun i e2 s2 => ∃ k, ixC s2 c i = some k ∧ Q k e2 s2) : RunX Y (mIxC mc m) e s Q :=
  run_bind (h.mono fun c e1 s1 h => run_bind (h.mono fun i e2 s2 ⟨k, h1, h2⟩ => Run.i (by
    dsimp only
    rw [h1]
    exact h2)))
theorem run_slC {mc : M Cl} {ml mh : M (Option Int)} {Q : D → Ev → St → Prop} (h : RunX Y mc e s fun c e1 s1 => RunX Y ml e1 s1 fun l e2 s2 => RunX Y mh e2 s2 fun u e3 s3 => ∃ d, snap s3 c = some d ∧ ∃ r, dSl d l u = some r ∧ Q r e3 s3) : RunX Y (mSlC mc ml mh) e s Q :=
  run_bind (h.mono fun c _ _ h => run_bind (h.mono fun l _ _ h => run_bind (h.mono fun u _ _ ⟨d, h1, r, h2, h3⟩ => Run.i (by
    dsimp only
    rw [h1]
    dsimp only
    rw [h2]
    exact h3))))
theorem run_sl {ml mh : M (Option Int)} {Q : D → Ev → St → Prop} (h : RunX Y m e s fun d e1 s1 => RunX Y ml e1 s1 fun l e2 s2 => RunX Y mh e2 s2 fun u e3 s3 => ∃ c, dSl d l u = some c ∧ Q c e3 s3) : RunX Y (mSl m ml mh) e s Q := run_bind (h.mono fun _ _ _ h => run_bind (h.mono fun _ _ _ h => run_bind (h.mono fun _ _ _ h => run_opt h)))
theorem run_part {Q : Option Int → Ev → St → Prop} (h : RunX Y m e s fun d e1 s1 => ∃ c, toI d = some c ∧ Q c e1 s1) : RunX Y (mPart m) e s Q := run_bind (h.mono fun _ _ _ h => run_opt h)
theorem run_noPart {Q : Option Int → Ev → St → Prop} (h : Q none e s) : RunX Y mNoPart e s Q := run_pure h
theorem run_isi {Tn : String} {Q : D → Ev → St → Prop} (h : RunX Y m e s fun d e1 s1 => ∃ b, kitB (tyD d) Tn = some b ∧ Q (.bool b) e1 s1) : RunX Y (mIsi Tn m) e s Q :=
  run_bind (h.mono fun d _ _ ⟨b, h1, h2⟩ => run_opt ⟨_, by rw [h1]; rfl, h2⟩)
theorem run_m1 {g : Str → List D → Option D} {mo : M D} {Q : D → Ev → St → Prop} (h : RunX Y mo e s fun d e1 s1 => ∃ z, toS d = some z ∧ RunX Y m e1 s1 fun a e2 s2 => ∃ c, g z [a] = some c ∧ Q c e2 s2) : RunX Y (mM1 g mo m) e s Q :=
  run_bind (h.mono fun _ _ _ ⟨z, h1, h2⟩ => run_optB ⟨z, h1, run_bind (h2.mono fun _ _ _ h => run_opt h)⟩)
theorem run_m1C {g : Str → List D → Option D} {mo : M D} {mc : M Cl} {Q : D → Ev → St → Prop} (h : RunX Y mo e s fun d e1 s1 => ∃ z, toS d = some z ∧ RunX Y mc e1 s1 fun c e2 s2 => ∃ d, snap s2 c = some d ∧ ∃ r, g z [d] = some r ∧ flatD r = true ∧ Q r e2 s2) : RunX Y (mM1C g mo mc) e s Q :=
  run_bind (h.mono fun _ _ _ ⟨z, h1, h2⟩ => run_optB ⟨z, h1, run_bind (h2.mono fun c _ _ ⟨d, h3, r, h4, h5, h6⟩ => Run.i (by
    dsimp only
    rw [h3, Option.bind_some, h4]
    dsimp only
    rw [if_pos h5]
    exact h6))⟩)
theorem run_binC {g : D → D → Option D} {mc mk : M Cl} {Q : D → Ev → St → Prop} (h : RunX Y mc e s fun c e1 s1 => RunX Y mk e1 s1 fun k e2 s2 => ∃ a b, snap s2 c = some a ∧ snap s2 k = some b ∧ ∃ r, g a b = some r ∧ flatD r = true ∧ Q r e2 s2) : RunX Y (mBinC g mc mk) e s Q :=
  run_bind (h.mono fun _ _ _ h => run_bind (h.mono fun _ _ _ ⟨a, b, h1, h2, r, h3, h4, h5⟩ => Run.i (by
    dsimp only
    rw [h1, h2, Option.bind_some, Option.bind_some, h3]
    dsimp only
    rw [if_pos h4]
    exact h5)))
theorem run_shs {as : List (M Cl)} {Q : List D → Ev → St → Prop} (h : RunX Y (evA as) e s fun cs e1 s1 => ∃ ds, shL cs = some ds ∧ ds.length ≤ sizeLine ∧ Q ds e1 s1) : RunX Y (mShs as) e s Q :=
  run_bind (h.mono fun gs _ _ ⟨ds, h1, h2, h3⟩ => run_opt ⟨ds, by rw [h1]; simp [Option.filter, h2], h3⟩)
theorem run_tup {as : List (M Cl)} {Q : D → Ev → St → Prop} (h : RunX Y (evA as) e s fun cs e1 s1 => ∃ ds, shL cs = some ds ∧ ds.length ≤ sizeLine ∧ Q (.tuple ds) e1 s1) : RunX Y (mTup as) e s Q := run_bind (run_shs (h.mono fun _ _ _ ⟨ds, a, b, c⟩ => ⟨ds, a, b, run_pure c⟩))
theorem run_lst {as : List (M Cl)} {Q : D → Ev → St → Prop} (h : RunX Y (evA as) e s fun cs e1 s1 => ∃ ds, shL cs = some ds ∧ ds.length ≤ sizeLine ∧ Q (.list ds) e1 s1) : RunX Y (mLst as) e s Q := run_bind (run_shs (h.mono fun _ _ _ ⟨ds, a, b, c⟩ => ⟨ds, a, b, run_pure c⟩))
theorem run_lsO {as : List (M Cl)} {Q : List Cl → Ev → St → Prop} (h : RunX Y (evA as) e s fun cs e1 s1 => cs.length ≤ sizeLine ∧ Q cs e1 s1) : RunX Y (mLsO as) e s Q := run_bind (h.mono fun cs _ _ ⟨a, b⟩ => run_opt ⟨cs, if_pos a, b⟩)
theorem run_fr {m : M (List Cl)} {Q : D → Ev → St → Prop} (h : RunX Y m e s fun cs e1 s1 => ∃ ds, shL cs = some ds ∧ Q (.list ds) e1 s1) : RunX Y (mFr m) e s Q := run_bind (h.mono fun cs _ _ ⟨ds, a, b⟩ => run_opt ⟨_, by rw [a]; rfl, b⟩)
theorem run_new {m : M (List Cl)} {Q : Nat → Ev → St → Prop} (h : RunX Y m e s fun cs e1 s1 => Q s1.length e1 (s1 ++ [.lst cs])) : RunX Y (mNew m) e s Q := run_bind (h.mono fun cs _ _ h => Run.i h)
theorem run_seal {m : M Nat} {Q : D → Ev → St → Prop} (h : RunX Y m e s fun l e1 s1 => ∃ xs ds, s1[l]? = some (.lst xs) ∧ shL xs = some ds ∧ Q (.list ds) e1 (s1.set l .gone)) : RunX Y (mSeal m) e s Q :=
  run_bind (h.mono fun l _ _ ⟨xs, ds, h1, h2, h3⟩ => Run.i (by
    dsimp only
    rw [h1]
    dsimp only
    rw [h2]
    exact h3))
theorem run_listOf {mc : M Cl} {Q : List Cl → Ev → St → Prop} (h : RunX Y mc e s fun c e1 s1 => ∃ d xs, snap s1 c = some d ∧ itemsD d = some xs ∧ Q (xs.map Cl.sh) e1 s1) : RunX Y (mListOf mc) e s Q :=
  run_bind (run_agC (h.mono fun c _ s1 ⟨d, xs, h1, h2, h3⟩ => run_ag0 (Run.i (by
    dsimp only
    have : snaps s1 [c] = some [d] := by unfold snaps; rw [h1]; rfl
    rw [this]
    dsimp only
    rw [h2]
    exact h3))))
theorem run_tupOf {mc : M Cl} {Q : D → Ev → St → Prop} (h : RunX Y mc e s fun c e1 s1 => ∃ d xs, snap s1 c = some d ∧ itemsD d = some xs ∧ Q (.tuple xs) e1 s1) : RunX Y (mTupOf mc) e s Q :=
  run_bind (run_agC (h.mono fun c _ s1 ⟨d, xs, h1, h2, h3⟩ => run_ag0 (Run.i (by
    dsimp only
    have : snaps s1 [c] = some [d] := by unfold snaps; rw [h1]; rfl
    rw [this]
    dsimp only
    rw [h2]
    exact h3))))
theorem run_catO {mc mk : M Cl} {Q : List Cl → Ev → St → Prop} (h : RunX Y mc e s fun c e1 s1 => RunX Y mk e1 s1 fun k e2 s2 => ∃ xs ys, snap s2 c = some (.list xs) ∧ snap s2 k = some (.list ys) ∧ xs.length + ys.length ≤ sizeLine ∧ Q ((xs ++ ys).map Cl.sh) e2 s2) : RunX Y (mCatO mc mk) e s Q :=
  run_bind (h.mono fun _ _ _ h => run_bind (h.mono fun _ _ _ ⟨xs, ys, h1, h2, h3, h4⟩ => Run.i (by
    dsimp only
    rw [h1, h2]
    dsimp only
    rw [if_pos h3]
    exact h4)))
theorem run_texts {f : List Str → D} {mc : M Cl} {Q : D → Ev → St → Prop} (h : RunX Y mc e s fun c e1 s1 => ∃ d xs ts, snap s1 c = some d ∧ itemsD d = some xs ∧ toSs xs = some ts ∧ ts.length + 1 < scanBound ∧ Q (f (metT ts)) e1 s1) : RunX Y (mTexts f mc) e s Q :=
  run_bind (h.mono fun c _ _ ⟨d, xs, ts, h1, h2, h3, h4, h5⟩ => Run.i (by
    dsimp only
    rw [h1, Option.bind_some, h2, Option.bind_some, h3]
    dsimp only
    rw [if_pos h4]
    exact h5))
theorem run_kin {neg : Bool} {ks : List Str} {Q : D → Ev → St → Prop} (h : RunX Y m e s fun d e1 s1 => ∃ z, toS d = some z ∧ Q (.bool (if neg then !ks.contains z else ks.contains z)) e1 s1) : RunX Y (mKIn neg ks m) e s Q := run_bind (h.mono fun _ _ _ ⟨z, h1, h2⟩ => run_opt ⟨_, by rw [h1]; rfl, h2⟩)
theorem run_dget {ml : M Nat} {mk : M D} {Q : Cl → Ev → St → Prop} (h : RunX Y ml e s fun l e1 s1 => RunX Y mk e1 s1 fun d e2 s2 => ∃ kvs k c, s2[l]? = some (.dk kvs) ∧ toK d = some k ∧ valC kvs k = some c ∧ Q c e2 s2) : RunX Y (mDGet ml mk) e s Q :=
  run_bind (h.mono fun l _ _ h => run_bind (h.mono fun d _ _ ⟨kvs, k, c, h1, h2, h3, h4⟩ => Run.i (by
    dsimp only
    rw [h1, h2]
    dsimp only
    rw [h3]
    exact h4)))
theorem run_dput {ml : M Nat} {mk : M D} {mc : M Cl} {Q : Fl → Ev → St → Prop} (h : RunX Y mc e s fun c e1 s1 => RunX Y ml e1 s1 fun l e2 s2 => RunX Y mk e2 s2 fun d e3 s3 => ∃ kvs k, s3[l]? = some (.dk kvs) ∧ toK d = some k ∧ kvs.length < sizeLine ∧ Q .nx e3 (s3.set l (.dk (putC kvs k c)))) : RunX Y (mDPut ml mk mc) e s Q :=
  run_bind (h.mono fun _ _ _ h => run_bind (h.mono fun _ _ _ h => run_bind (h.mono fun _ _ _ ⟨kvs, k, h1, h2, h3, h4⟩ => Run.i (by
    dsimp only
    rw [h1, h2]
    dsimp only
    rw [if_pos h3]
    exact h4))))
theorem run_din {neg : Bool} {ml : M Nat} {mk : M D} {Q : D → Ev → St → Prop} (h : RunX Y mk e s fun d e1 s1 => RunX Y ml e1 s1 fun l e2 s2 => ∃ kvs k, s2[l]? = some (.dk kvs) ∧ toK d = some k ∧ Q (.bool (if neg then !(valC kvs k).isSome else (valC kvs k).isSome)) e2 s2) : RunX Y (mDIn neg mk ml) e s Q :=
  run_bind (h.mono fun _ _ _ h => run_bind (h.mono fun _ _ _ ⟨kvs, k, h1, h2, h3⟩ => Run.i (by
    dsimp only
    rw [h1, h2]
    exact h3)))
theorem run_dnew {Q : Nat → Ev → St → Prop} (h : Q s.length e (s ++ [.dk []])) : RunX Y mDNew e s Q := Run.i h
theorem run_p0 {Q : List (Key × Cl) → Ev → St → Prop} (k : Q [] e s) : RunX Y (evP []) e s Q := Run.i k
theorem run_p1 {mk : M D} {mc : M Cl} {r : List (M D × M Cl)} {Q : List (Key × Cl) → Ev → St → Prop} (h : RunX Y mk e s fun d e1 s1 => ∃ k, toK d = some k ∧ RunX Y mc e1 s1 fun c e2 s2 => RunX Y (evP r) e2 s2 fun ps e3 s3 => Q ((k, c) :: ps) e3 s3) : RunX Y (evP ((mk, mc) :: r)) e s Q :=
  run_bind (h.mono fun _ _ _ ⟨k, h1, h2⟩ => run_optB ⟨k, h1, run_bind (h2.mono fun _ _ _ h => run_bind (h.mono fun _ _ _ h => run_pure h))⟩)
theorem run_disp {ps : List (M D × M Cl)} {Q : Nat → Ev → St → Prop} (h : RunX Y (evP ps) e s fun kvs e1 s1 => kvs.length ≤ 15 ∧ Q s1.length e1 (s1 ++ [.dk (mergeC [] kvs)])) : RunX Y (mDisp ps) e s Q :=
  run_bind (h.mono fun kvs _ _ ⟨h1, h2⟩ => run_optB ⟨(), if_pos h1, Run.i h2⟩)
theorem run_isDk {l : Nat} {Q : Nat → Ev → St → Prop} (h : ∃ kvs, s[l]? = some (.dk kvs) ∧ Q l e s) : RunX Y (isDk l) e s Q := by
  obtain ⟨kvs, h1, h2⟩ := h
  refine Run.i ?_
  unfold isDk
  dsimp only
  rw [h1]
  exact h2
theorem run_upd {ml mo : M Nat} {Q : Fl → Ev → St → Prop} (h : RunX Y ml e s fun l e1 s1 => ∃ k0, s1[l]? = some (.dk k0) ∧ RunX Y mo e1 s1 fun k e2 s2 => ∃ kvs more, s2[l]? = some (.dk kvs) ∧ s2[k]? = some (.dk more) ∧ (l ≠ k ∧ kvs.length + more.length ≤ sizeLine) ∧ Q .nx e2 (s2.set l (.dk (mergeC kvs more)))) : RunX Y (mUpd ml mo) e s Q :=
  run_bind (h.mono fun l _ _ ⟨k0, h0, h⟩ => run_bind (run_isDk ⟨k0, h0, run_bind (h.mono fun k _ _ ⟨kvs, more, h1, h2, h3, h4⟩ => Run.i (by
    dsimp only
    rw [h1, h2]
    dsimp only
    rw [if_pos h3]
    exact h4))⟩))
theorem run_isLst {l : Nat} {Q : Nat → Ev → St → Prop} (h : ∃ xs, s[l]? = some (.lst xs) ∧ Q l e s) : RunX Y (isLst l) e s Q := by
  obtain ⟨kvs, h1, h2⟩ := h
  refine Run.i ?_
  unfold isLst
  dsimp only
  rw [h1]
  exact h2
theorem run_app {ml : M Nat} {mc : M Cl} {Q : Fl → Ev → St → Prop} (h : RunX Y ml e s fun l e1 s1 => ∃ x0, s1[l]? = some (.lst x0) ∧ RunX Y mc e1 s1 fun c e2 s2 => ∃ xs, s2[l]? = some (.lst xs) ∧ xs.length < sizeLine ∧ Q .nx e2 (s2.set l (.lst (xs ++ [c])))) : RunX Y (mApp ml mc) e s Q :=
  run_bind (run_bind (h.mono fun l _ _ ⟨x0, h0, h⟩ => run_isLst ⟨x0, h0, run_bind (h.mono fun c _ _ ⟨xs, h1, h2, h3⟩ => Run.i (by
    dsimp only
    rw [h1]
    dsimp only
    rw [if_pos h2]
    exact h3))⟩))
theorem run_popAt {ml : M Nat} {mi : M D} {Q : Cl → Ev → St → Prop} (h : RunX Y ml e s fun l e1 s1 => ∃ x0, s1[l]? = some (.lst x0) ∧ RunX Y mi e1 s1 fun d e2 s2 => ∃ xs n c, s2[l]? = some (.lst xs) ∧ d = .int n ∧ (0 ≤ n ∧ n < xs.length ∧ xs.length ≤ sizeLine) ∧ xs[n.toNat]? = some c ∧ Q c e2 (s2.set l (.lst (xs.eraseIdx n.toNat)))) : RunX Y (mPopAt ml mi) e s Q :=
  run_bind (run_bind (h.mono fun l _ _ ⟨x0, h0, h⟩ => run_isLst ⟨x0, h0, run_bind (h.mono fun d _ _ ⟨xs, n, c, h1, h2, h3, h4, h5⟩ => Run.i (by
    subst h2
    dsimp only
    rw [h1]
    dsimp only
    rw [if_pos h3, h4]
    exact h5))⟩))
theorem run_ext {ml : M Nat} {mc : M Cl} {Q : Fl → Ev → St → Prop} (h : RunX Y ml e s fun l e1 s1 => ∃ x0, s1[l]? = some (.lst x0) ∧ RunX Y mc e1 s1 fun c e2 s2 => ∃ xs d ds, s2[l]? = some (.lst xs) ∧ snap s2 c = some d ∧ itemsD d = some ds ∧ xs.length + ds.length ≤ sizeLine ∧ Q .nx e2 (s2.set l (.lst (xs ++ ds.map Cl.sh)))) : RunX Y (mExt ml mc) e s Q :=
  run_bind (run_bind (h.mono fun l _ _ ⟨x0, h0, h⟩ => run_isLst ⟨x0, h0, run_bind (h.mono fun c _ _ ⟨xs, d, ds, h1, h2, h3, h4, h5⟩ => Run.i (by
    dsimp only
    rw [h1, h2, Option.bind_some, h3]
    dsimp only
    rw [if_pos h4]
    exact h5))⟩))
theorem run_setIx {ml : M Nat} {mi : M D} {mc : M Cl} {Q : Fl → Ev → St → Prop} (h : RunX Y mc e s fun c e1 s1 => RunX Y ml e1 s1 fun l e2 s2 => RunX Y mi e2 s2 fun d e3 s3 => ∃ xs n j, s3[l]? = some (.lst xs) ∧ d = .int n ∧ ixN xs.length n = some j ∧ Q .nx e3 (s3.set l (.lst (xs.set j c)))) : RunX Y (mSetIx ml mi mc) e s Q :=
  run_bind (h.mono fun _ _ _ h => run_bind (h.mono fun _ _ _ h => run_bind (h.mono fun _ _ _ ⟨xs, n, j, h1, h2, h3, h4⟩ => Run.i (by
    subst h2
    dsimp only
    rw [h1]
    dsimp only
    rw [h3]
    exact h4))))
theorem run_ifb {b : Bool} {m1 m2 : M α} {Q : α → Ev → St → Prop} (h1 : b = true → RunX Y m1 e s Q) (h2 : b = false → RunX Y m2 e s Q) : RunX Y (if b = true then m1 else m2) e s Q := by
  cases b with
  | true => exact h1 rfl
  | false => exact h2 rfl
theorem run_andT {t1 t2 : M Bool} {Q : Bool → Ev → St → Prop} (h : RunX Y t1 e s fun b e1 s1 => (b = true → RunX Y t2 e1 s1 Q) ∧ (b = false → Q false e1 s1)) : RunX Y (mAndT t1 t2) e s Q := run_bind (h.mono fun b _ _ h => run_ifb h.1 fun z => run_pure (h.2 z))
theorem run_orT {t1 t2 : M Bool} {Q : Bool → Ev → St → Prop} (h : RunX Y t1 e s fun b e1 s1 => (b = true → Q true e1 s1) ∧ (b = false → RunX Y t2 e1 s1 Q)) : RunX Y (mOrT t1 t2) e s Q := run_bind (h.mono fun b _ _ h => run_ifb (fun z => run_pure (h.1 z)) h.2)
theorem run_notT {t : M Bool} {Q : Bool → Ev → St → Prop} (h : RunX Y t e s fun b e1 s1 => Q (!b) e1 s1) : RunX Y (mNotT t) e s Q := run_bind (h.mono fun _ _ _ h => run_pure h)
theorem run_andV {m1 m2 : M D} {Q : D → Ev → St → Prop} (h : RunX Y m1 e s fun d e1 s1 => ∃ b, toB d = some b ∧ (b = true → RunX Y m2 e1 s1 Q) ∧ (b = false → Q (.bool false) e1 s1)) : RunX Y (mAndV m1 m2) e s Q := run_bind (run_test (h.mono fun _ _ _ ⟨b, h1, h2, h3⟩ => ⟨b, h1, run_ifb h2 fun z => run_pure (h3 z)⟩))
theorem run_orV {m1 m2 : M D} {Q : D → Ev → St → Prop} (h : RunX Y m1 e s fun d e1 s1 => ∃ b, toB d = some b ∧ (b = true → Q (.bool true) e1 s1) ∧ (b = false → RunX Y m2 e1 s1 Q)) : RunX Y (mOrV m1 m2) e s Q := run_bind (run_test (h.mono fun _ _ _ ⟨b, h1, h2, h3⟩ => ⟨b, h1, run_ifb (fun z => run_pure (h2 z)) h3⟩))
theorem run_notV {Q : D → Ev → St → Prop} (h : RunX Y m e s fun d e1 s1 => ∃ b, toB d = some b ∧ Q (.bool (!b)) e1 s1) : RunX Y (mNotV m) e s Q := run_bind (run_test (h.mono fun _ _ _ ⟨b, h1, h2⟩ => ⟨b, h1, run_pure h2⟩))
theorem run_ifE {t : M Bool} {m1 m2 : M D} {Q : D → Ev → St → Prop} (h : RunX Y t e s fun b e1 s1 => (b = true → RunX Y m1 e1 s1 Q) ∧ (b = false → RunX Y m2 e1 s1 Q)) : RunX Y (mIfE t m1 m2) e s Q := run_bind (h.mono fun b _ _ h => run_ifb h.1 h.2)
theorem run_neg {Q : D → Ev → St → Prop} (h : RunX Y m e s fun d e1 s1 => ∃ c, dNeg d = some c ∧ Q c e1 s1) : RunX Y (mNeg m) e s Q := run_bind (h.mono fun _ _ _ h => run_opt h)
theorem run_nx {Q : Fl → Ev → St → Prop} (h : Q .nx e s) : RunX Y mNx e s Q := run_pure h
theorem run_seq {m1 m2 : M Fl} {Q : Fl → Ev → St → Prop} (h : RunX Y m1 e s fun fl e1 s1 => (fl = .nx → RunX Y m2 e1 s1 Q) ∧ (fl ≠ .nx → Q fl e1 s1)) : RunX Y (mSeq m1 m2) e s Q := by
  unfold RunX at *
  unfold mSeq
  cases q : m1 ⟨e, s⟩ with
  | ok fl x =>
    rw [q] at h
    cases fl with
    | nx =>
      have z := h.1 rfl
      exact z
    | rt c => exact h.2 (by simp)
    | bk => exact h.2 (by simp)
    | ct => exact h.2 (by simp)
  | exc y x => rw [q] at h; exact h
  | bad => rw [q] at h; exact h
theorem run_expr {m : M Cl} {Q : Fl → Ev → St → Prop} (h : RunX Y m e s fun _ e1 s1 => Q .nx e1 s1) : RunX Y (mExpr m) e s Q := run_bind (h.mono fun _ _ _ h => run_pure h)
theorem run_ret {m : M Cl} {Q : Fl → Ev → St → Prop} (h : RunX Y m e s fun c e1 s1 => Q (.rt c) e1 s1) : RunX Y (mRet m) e s Q := run_bind (h.mono fun _ _ _ h => run_pure h)
theorem run_ifS {t : M Bool} {m1 m2 : M Fl} {Q : Fl → Ev → St → Prop} (h : RunX Y t e s fun b e1 s1 => (b = true → RunX Y m1 e1 s1 Q) ∧ (b = false → RunX Y m2 e1 s1 Q)) : RunX Y (mIfS t m1 m2) e s Q := run_bind (h.mono fun b _ _ h => run_ifb h.1 h.2)
theorem run_set {i : Nat} {m : M Cl} {Q : Fl → Ev → St → Prop} (h : RunX Y m e s fun c e1 s1 => Q .nx (e1.set i c) s1) : RunX Y (mSet i m) e s Q := run_bind (h.mono fun _ _ _ h => Run.i h)
theorem run_asg {g : MG Cl} {m : M Cl} {Q : Fl → Ev → St → Prop} (h : RunX Y m e s fun c e1 s1 => ∃ e', g c e1 = some e' ∧ Q .nx e' s1) : RunX Y (mAsg g m) e s Q :=
  run_bind (h.mono fun _ _ _ ⟨e', h1, h2⟩ => Run.i (by dsimp only; rw [h1]; exact h2))
theorem run_iter {Q : List D → Ev → St → Prop} (h : RunX Y m e s fun d e1 s1 => ∃ ds, dItems d = some ds ∧ Q ds e1 s1) : RunX Y (mIter m) e s Q := run_bind (h.mono fun _ _ _ h => run_opt h)
theorem run_rng1 {Q : List D → Ev → St → Prop} (h : RunX Y m e s fun d e1 s1 => ∃ ds, bRng1 d = some ds ∧ Q ds e1 s1) : RunX Y (mRng1 m) e s Q := run_bind (h.mono fun _ _ _ h => run_opt h)
theorem run_rng2 {ma mb : M D} {Q : List D → Ev → St → Prop} (h : RunX Y ma e s fun d e1 s1 => RunX Y mb e1 s1 fun c e2 s2 => ∃ ds, bRng2 d c = some ds ∧ Q ds e2 s2) : RunX Y (mRng2 ma mb) e s Q := run_bind (h.mono fun _ _ _ h => run_bind (h.mono fun _ _ _ h => run_opt h))
theorem run_for {mi : M (List D)} {g : MG Cl} {mb : M Fl} {Q : Fl → Ev → St → Prop} (h : RunX Y mi e s fun ds e1 s1 => RunX Y (forL g mb ds) e1 s1 Q) : RunX Y (mFor mi g mb) e s Q := run_bind h
theorem run_forL {g : MG Cl} {mb : M Fl} {Q : Fl → Ev → St → Prop} (ds : List D) (I : Nat → Ev → St → Prop) (h0 : I 0 e s)
    (hs : ∀ (i : Nat) (d : D) (e : Ev) (s : St), ds[i]? = some d → I i e s → ∃ e1, g (.sh d) e = some e1 ∧ RunX Y mb e1 s fun fl e2 s2 => (fl = .nx ∨ fl = .ct → I (i + 1) e2 s2) ∧ (fl = .bk → Q .nx e2 s2) ∧ (∀ c, fl = .rt c → Q (.rt c) e2 s2))
    (hd : ∀ e s, I ds.length e s → Q .nx e s) : RunX Y (forL g mb ds) e s Q := by
  suffices H : ∀ (k i : Nat) (e : Ev) (s : St), i + k = ds.length → I i e s → RunX Y (forL g mb (ds.drop i)) e s Q by
    have := H ds.length 0 e s (by omega) h0
    rwa [List.drop_zero] at this
  intro k
  induction k with
  | zero =>
    intro i e s hi hI
    have e' : i = ds.length := by omega
    subst e'
    rw [List.drop_length]
    exact Run.i (hd e s hI)
  | succ k ih =>
    intro i e s hi hI
    have hlt : i < ds.length := by omega
    obtain ⟨e1, h1, h2⟩ := hs i ds[i] e s (List.getElem?_eq_getElem hlt) hI
    rw [List.drop_eq_getElem_cons hlt]
    unfold RunX forL
    dsimp only
    rw [h1]
    unfold RunX at h2
    dsimp only
    cases q : mb ⟨e1, s⟩ with
    | ok fl x =>
      rw [q] at h2
      obtain ⟨a1, a2, a3⟩ := h2
      cases fl with
      | nx => have z := ih (i + 1) x.e x.s (by omega) (a1 (.inl rfl)); unfold RunX at z; exact z
      | ct => have z := ih (i + 1) x.e x.s (by omega) (a1 (.inr rfl)); unfold RunX at z; exact z
      | bk => exact a2 rfl
      | rt c => exact a3 c rfl
    | exc y x => rw [q] at h2; exact h2
    | bad => rw [q] at h2; exact h2
theorem run_forL_nil {g : MG Cl} {mb : M Fl} {Q : Fl → Ev → St → Prop} (h : Q .nx e s) : RunX Y (forL g mb []) e s Q := Run.i h
theorem run_comp {mi : M (List D)} {vs : List Nat} {g : MG Cl} {mt : M Bool} {me : M D} {Q : List Cl → Ev → St → Prop}
    (h : RunX Y mi e s fun ds e1 s1 => ds.length ≤ sizeLine ∧ RunX NoY (compL vs g mt me ds) (wipeE e1 vs) s1 fun ys e2 s2 => Q (ys.map Cl.sh) (backE e1 e2 vs) s2) : RunX Y (mComp mi vs g mt me) e s Q :=
  run_bind (h.mono fun ds e1 s1 ⟨h1, h2⟩ => by
    unfold RunX compE
    dsimp only
    rw [if_pos h1]
    unfold RunX at h2
    cases q : compL vs g mt me ds ⟨wipeE e1 vs, s1⟩ with
    | ok ys x => rw [q] at h2; exact h2
    | exc y x => rw [q] at h2; exact h2
    | bad => rw [q] at h2; exact h2)
theorem run_compL {vs : List Nat} {g : MG Cl} {mt : M Bool} {me : M D} (ds : List D) (J : Nat → List D → Ev → St → Prop) {Q : List D → Ev → St → Prop} (h0 : J 0 [] e s)
    (hs : ∀ (i : Nat) (d : D) (ys : List D) (e : Ev) (s : St), ds[i]? = some d → J i ys e s → ∃ e1, g (.sh d) e = some e1 ∧ RunX Y mt e1 s fun b e2 s2 => (b = true → RunX Y me e2 s2 fun y e3 s3 => J (i + 1) (ys ++ [y]) (wipeE e3 vs) s3) ∧ (b = false → J (i + 1) ys (wipeE e2 vs) s2))
    (hd : ∀ ys e s, J ds.length ys e s → Q ys e s) : RunX Y (compL vs g mt me ds) e s Q := by
  suffices H : ∀ (k i : Nat) (ys : List D) (e : Ev) (s : St), i + k = ds.length → J i ys e s → RunX Y (compL vs g mt me (ds.drop i)) e s fun zs e2 s2 => Q (ys ++ zs) e2 s2 by
    have := H ds.length 0 [] e s (by omega) h0
    rw [List.drop_zero] at this
    exact this.mono fun _ _ _ h => h
  intro k
  induction k with
  | zero =>
    intro i ys e s hi hJ
    have e' : i = ds.length := by omega
    subst e'
    rw [List.drop_length]
    refine Run.i ?_
    show Q (ys ++ []) e s
    rw [List.append_nil]
    exact hd ys e s hJ
  | succ k ih =>
    intro i ys e s hi hJ
    have hlt : i < ds.length := by omega
    obtain ⟨e1, h1, h2⟩ := hs i ds[i] ys e s (List.getElem?_eq_getElem hlt) hJ
    rw [List.drop_eq_getElem_cons hlt]
    have z : RunX Y (mBind mt (fun b => if b then mBind me (fun y => mBind (mWipe vs) fun _ => mBind (compL vs g mt me (ds.drop (i + 1))) fun ys => mPure (y :: ys)) else mBind (mWipe vs) fun _ => compL vs g mt me (ds.drop (i + 1)))) e1 s fun zs e2 s2 => Q (ys ++ zs) e2 s2 := by
      refine run_bind (h2.mono fun b e2 s2 h => run_ifb (fun hb => ?_) fun hb => ?_)
      · refine run_bind ((h.1 hb).mono fun y e3 s3 hJ' => run_bind (Run.i ?_))
        show RunX Y (mBind (compL vs g mt me (ds.drop (i + 1))) fun ys => mPure (y :: ys)) (wipeE e3 vs) s3 _
        refine run_bind ((ih (i + 1) _ _ _ (by omega) hJ').mono fun zs e4 s4 q => Run.i ?_)
        show Q (ys ++ (y :: zs)) e4 s4
        rw [List.append_assoc] at q
        exact q
      · refine run_bind (Run.i ?_)
        show RunX Y (compL vs g mt me (ds.drop (i + 1))) (wipeE e2 vs) s2 _
        exact ih (i + 1) _ _ _ (by omega) (h.2 hb)
    unfold RunX at z ⊢
    unfold compL
    dsimp only
    rw [h1]
    exact z
theorem run_yes {Q : Bool → Ev → St → Prop} (h : Q true e s) : RunX Y mYes e s Q := run_pure h
theorem frun_fn {n N : Nat} {mb : M Fl} {as : Ev} {Q : Cl → St → Prop} (hn : as.length = n) (h : RunX (fun y _ s' => YF y s') mb (as ++ List.replicate (N - n) .no) s fun fl e1 s1 => (fl = .nx → Q (.sh .none) (trim s.length (.sh .none) s1)) ∧ (∀ c, fl = .rt c → Q c (trim s.length c s1)) ∧ fl ≠ .bk ∧ fl ≠ .ct) : FRunX YF (fnF n N mb) as s Q := by
  unfold FRunX fnF
  rw [if_pos hn]
  unfold RunX at h
  cases q : mb ⟨as ++ List.replicate (N - n) .no, s⟩ with
  | ok fl x =>
    rw [q] at h
    obtain ⟨h1, h2, h3, h4⟩ := h
    cases fl with
    | nx => exact h1 rfl
    | rt c => exact h2 c rfl
    | bk => exact (h3 rfl).elim
    | ct => exact (h4 rfl).elim
  | exc y x => rw [q] at h; exact h
  | bad => rw [q] at h; exact h
end
end Ds
namespace Ds
open PySem PySem.Spec PyProof.Rows L2 Dn
section
variable {A B : Prop} {C : Cl → Prop} {c : Cl}
theorem seq_nx (h : A) : (Fl.nx = .nx → A) ∧ (Fl.nx ≠ .nx → B) := ⟨fun _ => h, fun z => absurd rfl z⟩
theorem seq_rt (h : B) : (Fl.rt c = .nx → A) ∧ (Fl.rt c ≠ .nx → B) := ⟨fun z => (nomatch z), fun _ => h⟩
theorem fin_rt (h : C c) : (Fl.rt c = .nx → A) ∧ (∀ c', Fl.rt c = .rt c' → C c') ∧ Fl.rt c ≠ .bk ∧ Fl.rt c ≠ .ct := ⟨fun z => (nomatch z), fun s' z => by cases z; exact h, by simp, by simp⟩
theorem fin_nx (h : A) : (Fl.nx = .nx → A) ∧ (∀ c', Fl.nx = .rt c' → C c') ∧ Fl.nx ≠ .bk ∧ Fl.nx ≠ .ct := ⟨fun _ => h, fun s' z => (nomatch z), by simp, by simp⟩
theorem turn_nx (h : A) : (Fl.nx = .nx ∨ Fl.nx = .ct → A) ∧ (Fl.nx = .bk → B) ∧ (∀ c', Fl.nx = .rt c' → C c') := ⟨fun _ => h, fun z => (nomatch z), fun s' z => (nomatch z)⟩
theorem turn_ct (h : A) : (Fl.ct = .nx ∨ Fl.ct = .ct → A) ∧ (Fl.ct = .bk → B) ∧ (∀ c', Fl.ct = .rt c' → C c') := ⟨fun _ => h, fun z => (nomatch z), fun s' z => (nomatch z)⟩
theorem turn_bk (h : B) : (Fl.bk = .nx ∨ Fl.bk = .ct → A) ∧ (Fl.bk = .bk → B) ∧ (∀ c', Fl.bk = .rt c' → C c') := ⟨fun z => by simp at z, fun _ => h, fun s' z => (nomatch z)⟩
theorem turn_rt (h : C c) : (Fl.rt c = .nx ∨ Fl.rt c = .ct → A) ∧ (Fl.rt c = .bk → B) ∧ (∀ c', Fl.rt c = .rt c' → C c') := ⟨fun z => by simp at z, fun z => (nomatch z), fun s' z => by cases z; exact h⟩
end
theorem two_Tb {A B : Prop} {b : Bool} (hb : b = true) (h : A) : (b = true → A) ∧ (b = false → B) := ⟨fun _ => h, fun z => absurd (hb.symm.trans z) (by decide)⟩
theorem two_Fb {A B : Prop} {b : Bool} (hb : b = false) (h : B) : (b = true → A) ∧ (b = false → B) := ⟨fun z => absurd (hb.symm.trans z) (by decide), fun _ => h⟩
theorem trim_len {n : Nat} {c : Cl} {s : St} (h : s.length = n) : trim n c s = s := by
  unfold trim
  split
  · rw [List.take_of_length_le (by omega)]
  · rfl
theorem trim_get {n : Nat} {c : Cl} {s : St} {j : Nat} (h : j < n) : (trim n c s)[j]? = s[j]? := by
  unfold trim
  split
  · rw [List.getElem?_take_of_lt h]
  · rfl
theorem trim_ge {n : Nat} {c : Cl} {s : St} (h : n ≤ s.length) : n ≤ (trim n c s).length := trim_le h
theorem shL_map : ∀ ds : List D, shL (ds.map Cl.sh) = some ds
  | [] => rfl
  | d :: ds => by rw [List.map_cons]; unfold shL; rw [shL_map ds]; rfl
theorem snap_list {s : St} {l : Nat} {ds : List D} (h : s[l]? = some (.lst (ds.map Cl.sh))) : snap s (.lo l) = some (.list ds) := by
  show (match s[l]? with
    | some (.lst xs) => (shL xs).map PyData.list
    | _ => none) = _
  rw [h]
  dsimp only
  rw [shL_map]
  rfl
theorem set_same {s : St} {l : Nat} {o : Ob} (h : l < s.length) : (s.set l o)[l]? = some o := List.getElem?_set_self h
theorem set_other {s : St} {l j : Nat} {o : Ob} (h : j ≠ l) : (s.set l o)[j]? = s[j]? := List.getElem?_set_ne (Ne.symm h)
theorem app_old {s : St} {j : Nat} {o : Ob} (h : j < s.length) : (s ++ [o])[j]? = s[j]? := List.getElem?_append_left h
theorem app_new {s : St} {o : Ob} : (s ++ [o])[s.length]? = some o := by
  rw [List.getElem?_append_right (Nat.le_refl _), Nat.sub_self]
  rfl
theorem lt_of_at {s : St} {l : Nat} {o : Ob} (h : s[l]? = some o) : l < s.length := (List.getElem?_eq_some_iff.mp h).1
/-- x[i], a list of the store with data at i -/
theorem ixC_lo {s : St} {l : Nat} {xs : List Cl} {i : Int} {c : Cl} (h : s[l]? = some (.lst xs)) (h2 : atI xs i = some c) : ixC s (.lo l) (.int i) = some c := by
  show (match s[l]?, (PyData.int i) with
    | some (.lst xs), .int i => atI xs i
    | _, _ => none) = _
  rw [h]
  exact h2
end Ds
namespace Ds
open PySem PySem.Spec PyProof.Rows L2 Dn
section
variable {α β : Type} {e : Ev} {s : St} {m : M D} {Y : Exn → Ev → St → Prop}
theorem run_enum {Q : List D → Ev → St → Prop} (h : RunX Y m e s fun d e1 s1 => ∃ ds, dItems d = some ds ∧ Q (enumD ds) e1 s1) : RunX Y (mEnum m) e s Q :=
  run_bind (h.mono fun _ _ _ ⟨ds, a, b⟩ => run_opt ⟨_, by rw [a]; rfl, b⟩)
theorem run_zip {ma mb : M D} {Q : List D → Ev → St → Prop} (h : RunX Y ma e s fun d e1 s1 => RunX Y mb e1 s1 fun c e2 s2 => ∃ ds es, dItems d = some ds ∧ dItems c = some es ∧ Q (zipD ds es) e2 s2) : RunX Y (mZip ma mb) e s Q :=
  run_bind (h.mono fun _ _ _ h => run_bind (h.mono fun _ _ _ ⟨ds, es, a, b, c⟩ => run_opt ⟨_, by rw [a, b]; rfl, c⟩))
theorem run_rng3 {ma mb mc : M D} {Q : List D → Ev → St → Prop} (h : RunX Y ma e s fun d e1 s1 => RunX Y mb e1 s1 fun c e2 s2 => RunX Y mc e2 s2 fun k e3 s3 => ∃ ds, bRng3 d c k = some ds ∧ Q ds e3 s3) : RunX Y (mRng3 ma mb mc) e s Q :=
  run_bind (h.mono fun _ _ _ h => run_bind (h.mono fun _ _ _ h => run_bind (h.mono fun _ _ _ h => run_opt h)))
theorem run_kget {kvs : List (Str × D)} {Q : D → Ev → St → Prop} (h : RunX Y m e s fun d e1 s1 => ∃ z r, toS d = some z ∧ lookS kvs z = some r ∧ Q r e1 s1) : RunX Y (mKGet kvs m) e s Q :=
  run_bind (h.mono fun _ _ _ ⟨z, r, a, b, c⟩ => run_opt ⟨r, by rw [a]; exact b, c⟩)
theorem run_sortD {ml : M Nat} {Q : D → Ev → St → Prop} (h : RunX Y ml e s fun l e1 s1 => ∃ kvs ks, s1[l]? = some (.dk kvs) ∧ keysS kvs = some ks ∧ ks.length < 64 ∧ Q (.list ((sortT ks).map PyData.str)) e1 s1) : RunX Y (mSortD ml) e s Q :=
  run_bind (h.mono fun l _ _ ⟨kvs, ks, h1, h2, h3, h4⟩ => Run.i (by
    dsimp only
    rw [h1]
    dsimp only
    rw [h2]
    dsimp only
    rw [if_pos h3]
    exact h4))
theorem run_dget2 {ml : M Nat} {mk : M D} {mc : M Cl} {Q : Cl → Ev → St → Prop} (h : RunX Y ml e s fun l e1 s1 => ∃ k0, s1[l]? = some (.dk k0) ∧ RunX Y mk e1 s1 fun d e2 s2 => RunX Y mc e2 s2 fun z e3 s3 => ∃ kvs k, s3[l]? = some (.dk kvs) ∧ toK d = some k ∧ Q ((valC kvs k).getD z) e3 s3) : RunX Y (mDGet2 ml mk mc) e s Q :=
  run_bind (h.mono fun l _ _ ⟨k0, h0, h⟩ => run_bind (run_isDk ⟨k0, h0, run_bind (h.mono fun d _ _ h => run_bind (h.mono fun z _ _ ⟨kvs, k, h1, h2, h3⟩ => Run.i (by
    dsimp only
    rw [h1, h2]
    exact h3)))⟩))
/-- while: n turns at most are left -/
theorem run_while {t : M Bool} {mb : M Fl} {k : Nat} {Q : Fl → Ev → St → Prop} (I : Nat → Ev → St → Prop) (n0 : Nat) (hk : n0 < k) (h0 : I n0 e s)
    (hs : ∀ n e s, I n e s → RunX Y t e s fun b e1 s1 => (b = true → RunX Y mb e1 s1 fun fl e2 s2 => (fl = .nx ∨ fl = .ct → ∃ n', n' < n ∧ I n' e2 s2) ∧ (fl = .bk → Q .nx e2 s2) ∧ (∀ c, fl = .rt c → Q (.rt c) e2 s2)) ∧ (b = false → Q .nx e1 s1)) :
    RunX Y (mWhile t mb k) e s Q := by
  induction k generalizing n0 e s with
  | zero => omega
  | succ k ih =>
    have h := hs n0 e s h0
    unfold RunX at h ⊢
    unfold mWhile
    cases q : t ⟨e, s⟩ with
    | bad => rw [q] at h; exact h
    | exc x δ => rw [q] at h; exact h
    | ok b δ =>
      rw [q] at h
      obtain ⟨h1, h2⟩ := h
      cases b with
      | false => exact h2 rfl
      | true =>
        have h3 := h1 rfl
        unfold RunX at h3
        have e1 : (⟨δ.e, δ.s⟩ : Sx) = δ := rfl
        rw [e1] at h3
        dsimp only
        cases z : mb δ with
        | bad => rw [z] at h3; exact h3
        | exc x δ' => rw [z] at h3; exact h3
        | ok fl δ' =>
          rw [z] at h3
          obtain ⟨a1, a2, a3⟩ := h3
          have go : ∀ {n' : Nat}, n' < n0 → I n' δ'.e δ'.s → RunX Y (mWhile t mb k) δ'.e δ'.s Q := fun hl hi => ih _ (by omega) hi
          cases fl with
          | nx =>
            obtain ⟨n', hl, hi⟩ := a1 (.inl rfl)
            have := go hl hi
            unfold RunX at this
            exact this
          | ct =>
            obtain ⟨n', hl, hi⟩ := a1 (.inr rfl)
            have := go hl hi
            unfold RunX at this
            exact this
          | bk => exact a2 rfl
          | rt c => exact a3 c rfl
/-- a comprehension told by functions; I: what stays true of the store -/
theorem run_compF {vs : List Nat} {g : MG Cl} {mt : M Bool} {me : M D} {Q : List D → Ev → St → Prop} (ds : List D) (p : D → Bool) (f : D → D) (I : St → Prop) (h0 : I s)
    (hs : ∀ d ∈ ds, ∀ s, I s → ∃ e1, g (.sh d) e = some e1 ∧ RunX Y mt e1 s fun b e2 s2 => b = p d ∧ (b = true → RunX Y me e2 s2 fun y e3 s3 => y = f d ∧ wipeE e3 vs = e ∧ I s3) ∧ (b = false → wipeE e2 vs = e ∧ I s2))
    (fin : ∀ s, I s → Q ((ds.filter p).map f) e s) : RunX Y (compL vs g mt me ds) e s Q := by
  refine run_compL ds (fun i ys e' s' => e' = e ∧ I s' ∧ ys = ((ds.take i).filter p).map f) ⟨rfl, h0, by simp⟩ (fun i d ys e' s' hd ⟨he, hI, hy⟩ => ?_) fun ys e' s' ⟨he, hI, hy⟩ => ?_
  · subst he; subst hy
    obtain ⟨e1, h1, h2⟩ := hs d (List.mem_of_getElem? hd) s' hI
    refine ⟨e1, h1, h2.mono fun b e2 s2 ⟨hb, ht, hf⟩ => ⟨fun hb' => (ht hb').mono fun y e3 s3 ⟨a, b', c⟩ => ⟨b', c, ?_⟩, fun hb' => ?_⟩⟩
    · rw [filter_take_succ p ds i d hd, ← hb, hb', a]
      simp
    · obtain ⟨a, b'⟩ := hf hb'
      refine ⟨a, b', ?_⟩
      rw [filter_take_succ p ds i d hd, ← hb, hb']
      simp
  · subst he; subst hy
    rw [List.take_length]
    exact fin s' hI
end
theorem canAll : ∀ {ds : List D}, (∀ d ∈ ds, d.canLay0 = true) → PyData.canLayAll0 ds = true
  | [], _ => rfl
  | d :: ds, h => by
    rw [PyData.canLayAll0, h d List.mem_cons_self, canAll fun x hx => h x (List.mem_cons_of_mem _ hx)]
    rfl
theorem depAll {n : Nat} : ∀ {ds : List D}, (∀ d ∈ ds, d.depth ≤ n) → PyData.depthAll ds ≤ n
  | [], _ => Nat.zero_le _
  | d :: ds, h => by
    rw [PyData.depthAll]
    exact Nat.max_le.mpr ⟨h d List.mem_cons_self, depAll fun x hx => h x (List.mem_cons_of_mem _ hx)⟩
/-- data that == takes, so deep -/
def Sh (n : Nat) (d : D) : Prop := d.canLay0 = true ∧ d.depth ≤ n
theorem Sh.mono {n m : Nat} {d : D} (h : Sh n d) (k : n ≤ m) : Sh m d := ⟨h.1, Nat.le_trans h.2 k⟩
theorem Sh.tup {n : Nat} {ds : List D} (h : ∀ d ∈ ds, Sh n d) : Sh (n + 1) (.tuple ds) := ⟨canAll fun d hd => (h d hd).1, by rw [PyData.depth]; exact Nat.succ_le_succ (depAll fun d hd => (h d hd).2)⟩
theorem Sh.lst {n : Nat} {ds : List D} (h : ∀ d ∈ ds, Sh n d) : Sh (n + 1) (.list ds) := ⟨canAll fun d hd => (h d hd).1, by rw [PyData.depth]; exact Nat.succ_le_succ (depAll fun d hd => (h d hd).2)⟩
theorem Sh.str {n k : Nat} {x : Str} (h : Ok n x) : Sh k (.str x) := ⟨h.strOk, Nat.zero_le _⟩
theorem Sh.int {k : Nat} {i : Int} : Sh k (.int i) := ⟨rfl, Nat.zero_le _⟩
theorem Sh.strs {n k : Nat} {xs : List Str} (h : ∀ x ∈ xs, Ok n x) : Sh (k + 1) (.tuple (xs.map PyData.str)) := Sh.tup fun d hd => by
  obtain ⟨x, hx, rfl⟩ := List.mem_map.mp hd
  exact Sh.str (h x hx)
theorem Sh.ok {n : Nat} {d : D} (h : Sh n d) (k : n ≤ 64 := by decide) : SeqAt.shaped d = true := by
  unfold SeqAt.shaped
  rw [h.1, decide_eq_true (Nat.le_trans h.2 k)]
  rfl
theorem Sh.same {n : Nat} {d : D} (h : Sh n d) : PyData.eqv d d = true := PySem.SeqAt.eqv_refl d h.1
theorem trim_lo {n l : Nat} {s : St} (h : n ≤ l) : trim n (.lo l) s = s := by
  unfold trim
  rw [if_neg]
  intro z
  have : Cl.below n (.lo l) = true := by
    have := (Bool.and_eq_true _ _ ▸ z : _ ∧ _).1
    exact this
  simp [Cl.below] at this
  omega
/-- nothing of the old changes -/
def Fz (s s' : St) : Prop := s.length ≤ s'.length ∧ ∀ j, j < s.length → s'[j]? = s[j]?
theorem Fz.refl (s : St) : Fz s s := ⟨Nat.le_refl _, fun _ _ => rfl⟩
theorem Fz.trans {s s1 s2 : St} (h : Fz s s1) (k : Fz s1 s2) : Fz s s2 := ⟨Nat.le_trans h.1 k.1, fun j hj => (k.2 j (Nat.lt_of_lt_of_le hj h.1)).trans (h.2 j hj)⟩
theorem Fz.trim {c : Cl} {s s' : St} (h : Fz s s') : Fz s (trim s.length c s') := ⟨trim_ge h.1, fun j hj => (trim_get hj).trans (h.2 j hj)⟩
theorem Fz.app {o : Ob} {s : St} : Fz s (s ++ [o]) := ⟨by simp, fun j hj => app_old hj⟩
theorem Fz.put {l : Nat} {o : Ob} {s0 s : St} (h : Fz s0 s) (hl : s0.length ≤ l) : Fz s0 (s.set l o) := ⟨by simpa using h.1, fun j hj => (set_other (by omega)).trans (h.2 j hj)⟩
theorem Fz.at_ {l : Nat} {o : Ob} {s s' : St} (h : Fz s s') (k : s[l]? = some o) : s'[l]? = some o := (h.2 l (lt_of_at k)).trans k
theorem drop_at {ds : List D} {i : Nat} {d : D} (h : ds[i]? = some d) : ds.drop i = d :: ds.drop (i + 1) := by
  have hl := (List.getElem?_eq_some_iff.mp h).1
  rw [List.drop_eq_getElem_cons hl]
  rw [List.getElem?_eq_getElem hl] at h
  rw [Option.some.inj h]
theorem run_forR {Y : Exn → Ev → St → Prop} {e : Ev} {s : St} {g : MG Cl} {mb : M Fl} {Q : Fl → Ev → St → Prop} (ds : List D) (I : List D → Ev → St → Prop) (h0 : I ds e s)
    (hs : ∀ (d : D) (r : List D) (e : Ev) (s : St), I (d :: r) e s → ∃ e1, g (.sh d) e = some e1 ∧ RunX Y mb e1 s fun fl e2 s2 => (fl = .nx ∨ fl = .ct → I r e2 s2) ∧ (fl = .bk → Q .nx e2 s2) ∧ (∀ c, fl = .rt c → Q (.rt c) e2 s2))
    (hd : ∀ e s, I [] e s → Q .nx e s) : RunX Y (forL g mb ds) e s Q :=
  run_forL ds (fun i e s => I (ds.drop i) e s) (by rw [List.drop_zero]; exact h0) (fun i d e s h hI => hs d _ e s (by rw [drop_at h] at hI; exact hI)) fun e s hI => hd e s (by rw [List.drop_length] at hI; exact hI)
theorem run_compR {Y : Exn → Ev → St → Prop} {e : Ev} {s : St} {vs : List Nat} {g : MG Cl} {mt : M Bool} {me : M D} (ds : List D) (J : List D → List D → Ev → St → Prop) {Q : List D → Ev → St → Prop} (h0 : J ds [] e s)
    (hs : ∀ (d : D) (r ys : List D) (e : Ev) (s : St), J (d :: r) ys e s → ∃ e1, g (.sh d) e = some e1 ∧ RunX Y mt e1 s fun b e2 s2 => (b = true → RunX Y me e2 s2 fun y e3 s3 => J r (ys ++ [y]) (wipeE e3 vs) s3) ∧ (b = false → J r ys (wipeE e2 vs) s2))
    (hd : ∀ ys e s, J [] ys e s → Q ys e s) : RunX Y (compL vs g mt me ds) e s Q :=
  run_compL ds (fun i ys e s => J (ds.drop i) ys e s) (by rw [List.drop_zero]; exact h0) (fun i d ys e s h hI => hs d _ ys e s (by rw [drop_at h] at hI; exact hI)) fun ys e s hI => hd ys e s (by rw [List.drop_length] at hI; exact hI)
end Ds
namespace Ds
open PySem PySem.Spec PyProof.Rows L2 Dn
section
variable {α β : Type} {e : Ev} {s : St} {m : M D} {Y : Exn → Ev → St → Prop}
theorem run_tget {ml : M Nat} {mk : M D} {Q : Cl → Ev → St → Prop} (h : RunX Y ml e s fun l e1 s1 => RunX Y mk e1 s1 fun d e2 s2 => ∃ kvs k c, tkAt s2 l = some kvs ∧ toTK d = some k ∧ valC kvs k = some c ∧ Q c e2 s2) : RunX Y (mTGet ml mk) e s Q :=
  run_bind (h.mono fun l _ _ h => run_bind (h.mono fun d _ _ ⟨kvs, k, c, h1, h2, h3, h4⟩ => Run.i (by
    dsimp only
    rw [h1, h2]
    dsimp only
    rw [h3]
    exact h4)))
theorem run_isDt {l : Nat} {Q : Nat → Ev → St → Prop} (h : ∃ kvs, tkAt s l = some kvs ∧ Q l e s) : RunX Y (isDt l) e s Q := by
  obtain ⟨kvs, h1, h2⟩ := h
  refine Run.i ?_
  unfold isDt
  dsimp only
  rw [h1]
  exact h2
theorem run_tget2 {ml : M Nat} {mk : M D} {mc : M Cl} {Q : Cl → Ev → St → Prop} (h : RunX Y ml e s fun l e1 s1 => ∃ k0, tkAt s1 l = some k0 ∧ RunX Y mk e1 s1 fun d e2 s2 => RunX Y mc e2 s2 fun z e3 s3 => ∃ kvs k, tkAt s3 l = some kvs ∧ toTK d = some k ∧ Q ((valC kvs k).getD z) e3 s3) : RunX Y (mTGet2 ml mk mc) e s Q :=
  run_bind (h.mono fun l _ _ ⟨k0, h0, h⟩ => run_bind (run_isDt ⟨k0, h0, run_bind (h.mono fun d _ _ h => run_bind (h.mono fun z _ _ ⟨kvs, k, h1, h2, h3⟩ => Run.i (by
    dsimp only
    rw [h1, h2]
    exact h3)))⟩))
theorem run_tput {ml : M Nat} {mk : M D} {mc : M Cl} {Q : Fl → Ev → St → Prop} (h : RunX Y mc e s fun c e1 s1 => RunX Y ml e1 s1 fun l e2 s2 => RunX Y mk e2 s2 fun d e3 s3 => ∃ kvs k, s3[l]? = some (.dt kvs) ∧ toTK d = some k ∧ kvs.length < sizeLine ∧ Q .nx e3 (s3.set l (.dt (putC kvs k c)))) : RunX Y (mTPut ml mk mc) e s Q :=
  run_bind (h.mono fun _ _ _ h => run_bind (h.mono fun _ _ _ h => run_bind (h.mono fun _ _ _ ⟨kvs, k, h1, h2, h3, h4⟩ => Run.i (by
    dsimp only
    rw [h1, h2]
    dsimp only
    rw [if_pos h3]
    exact h4))))
theorem run_tin {neg : Bool} {ml : M Nat} {mk : M D} {Q : D → Ev → St → Prop} (h : RunX Y mk e s fun d e1 s1 => RunX Y ml e1 s1 fun l e2 s2 => ∃ kvs k, tkAt s2 l = some kvs ∧ toTK d = some k ∧ Q (.bool (if neg then !(valC kvs k).isSome else (valC kvs k).isSome)) e2 s2) : RunX Y (mTIn neg mk ml) e s Q :=
  run_bind (h.mono fun _ _ _ h => run_bind (h.mono fun _ _ _ ⟨kvs, k, h1, h2, h3⟩ => Run.i (by
    dsimp only
    rw [h1, h2]
    exact h3)))
theorem run_tnew {Q : Nat → Ev → St → Prop} (h : Q s.length e (s ++ [.dt []])) : RunX Y mTNew e s Q := Run.i h
theorem run_fld {c f : Str} {ml : M Nat} {Q : Cl → Ev → St → Prop} (h : RunX Y ml e s fun l e1 s1 => ∃ fs x, s1[l]? = some (.ins c fs) ∧ fs.lookup f = some x ∧ Q x e1 s1) : RunX Y (mFld c ml f) e s Q :=
  run_bind (h.mono fun l _ _ ⟨fs, x, h1, h2, h3⟩ => Run.i (by
    dsimp only
    rw [h1]
    dsimp only
    rw [if_pos rfl, h2]
    exact h3))
theorem run_setF {c f : Str} {ml : M Nat} {mc : M Cl} {Q : Fl → Ev → St → Prop} (h : RunX Y mc e s fun x e1 s1 => RunX Y ml e1 s1 fun l e2 s2 => ∃ fs, s2[l]? = some (.ins c fs) ∧ fs.length < 1000 ∧ Q .nx e2 (s2.set l (.ins c (putFC f x fs)))) : RunX Y (mSetF c ml f mc) e s Q :=
  run_bind (h.mono fun _ _ _ h => run_bind (h.mono fun _ _ _ ⟨fs, h1, h2, h3⟩ => Run.i (by
    dsimp only
    rw [h1]
    dsimp only
    rw [if_pos ⟨rfl, h2⟩]
    exact h3)))
theorem run_isIns {c m : Str} {l : Nat} {Q : Nat → Ev → St → Prop} (h : ∃ fs, s[l]? = some (.ins c fs) ∧ fs.lookup m = none ∧ Q l e s) : RunX Y (isIns c m l) e s Q := by
  obtain ⟨fs, h1, h2, h3⟩ := h
  refine Run.i ?_
  unfold isIns
  dsimp only
  rw [h1]
  dsimp only
  rw [if_pos ⟨rfl, h2⟩]
  exact h3
theorem run_meth {c m : Str} {F : Fn} {ml : M Nat} {as : List (M Cl)} {Q : Cl → Ev → St → Prop} (h : RunX Y ml e s fun l e1 s1 => ∃ fs, s1[l]? = some (.ins c fs) ∧ fs.lookup m = none ∧ RunX Y (evA as) e1 s1 fun cs e2 s2 => FRunX NoF F (.lo l :: cs) s2 fun x s3 => Q x e2 s3) : RunX Y (mMeth c m F ml as) e s Q :=
  run_bind (h.mono fun l _ _ ⟨fs, h1, h2, h3⟩ => run_bind (run_isIns ⟨fs, h1, h2, run_bind (h3.mono fun cs e1 s1 h => Run.i (by
    obtain ⟨x, s2, q1, q2⟩ := h.to
    dsimp only
    rw [q1]
    exact q2))⟩))
theorem run_make {c : Str} {F : Fn} {as : List (M Cl)} {Q : Nat → Ev → St → Prop} (h : RunX Y (evA as) e s fun cs e1 s1 => FRunX NoF F (.lo s1.length :: cs) (s1 ++ [.ins c []]) fun x s2 => x = .sh .none ∧ Q s1.length e1 s2) : RunX Y (mMake c F as) e s Q :=
  run_bind (h.mono fun cs e1 s1 h => Run.i (by
    obtain ⟨x, s2, q1, rfl, q2⟩ := h.to
    dsimp only
    rw [q1]
    exact q2))
theorem run_mLock {p : M Nat} {m : M α} {Q : α → Ev → St → Prop} (h : RunX NoY p e s fun l _ _ => ∃ kvs, s[l]? = some (.dt kvs) ∧ RunX NoY m e (s.set l (.ft kvs)) fun x e1 s1 => ∃ kvs', s1[l]? = some (.ft kvs') ∧ Q x e1 (s1.set l (.dt kvs'))) : RunX Y (mLock p m) e s Q := by
  refine Run.i ?_
  unfold mLock
  unfold RunX at h
  cases q : p ⟨e, s⟩ with
  | ok l x =>
    rw [q] at h
    obtain ⟨kvs, h1, h2⟩ := h
    dsimp only
    rw [h1]
    dsimp only
    cases q2 : m ⟨e, s.set l (.ft kvs)⟩ with
    | ok y z =>
      rw [q2] at h2
      obtain ⟨kvs', h3, h4⟩ := h2
      dsimp only
      rw [h3]
      exact h4
    | exc y z => rw [q2] at h2; exact h2.elim
    | bad => rw [q2] at h2; exact h2.elim
  | exc y x => rw [q] at h; exact h.elim
  | bad => rw [q] at h; exact h.elim
theorem run_keysT {ml : M Nat} {Q : List D → Ev → St → Prop} (h : RunX Y ml e s fun l e1 s1 => ∃ kvs, s1[l]? = some (.ft kvs) ∧ Q (keysD kvs) e1 s1) : RunX Y (mKeysT ml) e s Q :=
  run_bind (h.mono fun l _ _ ⟨kvs, h1, h2⟩ => Run.i (by
    dsimp only
    rw [h1]
    exact h2))
theorem run_sortL {Q : D → Ev → St → Prop} (h : RunX Y m e s fun d e1 s1 => ∃ ds, d = .list ds ∧ sortB ds = true ∧ Q (.list (sortD ds)) e1 s1) : RunX Y (mSortL m) e s Q :=
  run_bind (h.mono fun d _ _ ⟨ds, h1, h2, h3⟩ => run_opt ⟨.list (sortD ds), by subst h1; dsimp only; rw [if_pos h2], h3⟩)
theorem run_sortDT {ml : M Nat} {Q : D → Ev → St → Prop} (h : RunX Y ml e s fun l e1 s1 => ∃ kvs, tkAt s1 l = some kvs ∧ sortB (keysD kvs) = true ∧ Q (.list (sortD (keysD kvs))) e1 s1) : RunX Y (mSortDT ml) e s Q :=
  run_bind (h.mono fun l _ _ ⟨kvs, h1, h2, h3⟩ => Run.i (by
    dsimp only
    rw [h1]
    dsimp only
    rw [if_pos h2]
    exact h3))
theorem run_listR1 {Q : D → Ev → St → Prop} (h : RunX Y m e s fun d e1 s1 => ∃ j, d = .int j ∧ (inLine j = true ∧ (j - 0).toNat ≤ 16777216) ∧ Q (.list (rngD 0 (j - 0).toNat)) e1 s1) : RunX Y (mListR1 m) e s Q :=
  run_bind (h.mono fun d _ _ ⟨j, h1, h2, h3⟩ => run_opt ⟨.list (rngD 0 (j - 0).toNat), by subst h1; dsimp only; rw [if_pos h2], h3⟩)
end
/-- all others as they were -/
def Fr (b : Nat) (s s' : St) : Prop := s.length ≤ s'.length ∧ ∀ j, j < s.length → j ≠ b → s'[j]? = s[j]?
theorem Fr.refl (b : Nat) (s : St) : Fr b s s := ⟨Nat.le_refl _, fun _ _ _ => rfl⟩
theorem Fr.trans {b : Nat} {s s1 s2 : St} (h : Fr b s s1) (k : Fr b s1 s2) : Fr b s s2 := ⟨Nat.le_trans h.1 k.1, fun j hj hb => (k.2 j (Nat.lt_of_lt_of_le hj h.1) hb).trans (h.2 j hj hb)⟩
theorem Fr.trim {b : Nat} {c : Cl} {s s' : St} (h : Fr b s s') : Fr b s (trim s.length c s') := ⟨trim_ge h.1, fun j hj hb => (trim_get hj).trans (h.2 j hj hb)⟩
theorem Fr.set {b : Nat} {o : Ob} {s : St} : Fr b s (s.set b o) := ⟨by simp, fun j _ hb => set_other hb⟩
theorem Fr.app {b : Nat} {o : Ob} {s : St} : Fr b s (s ++ [o]) := ⟨by simp, fun j hj _ => app_old hj⟩
theorem Fr.at_ {b l : Nat} {o : Ob} {s s' : St} (h : Fr b s s') (k : s[l]? = some o) (hb : l ≠ b) : s'[l]? = some o := (h.2 l (lt_of_at k) hb).trans k
theorem Fr.put {b l : Nat} {o : Ob} {s0 s : St} (h : Fr b s0 s) (hl : s0.length ≤ l) : Fr b s0 (s.set l o) := ⟨by simpa using h.1, fun j hj hb => (set_other (by omega)).trans (h.2 j hj hb)⟩
/-- the state of the draws -/
def S2 (l : Nat) (s : St) : Prop := ∃ a b : Int, s[l]? = some (.lst [.sh (.int a), .sh (.int b)]) ∧ 0 ≤ a ∧ 0 ≤ b ∧ b < 4294967296
theorem S2.lt {l : Nat} {s : St} (h : S2 l s) : l < s.length := by
  obtain ⟨a, b, h, _⟩ := h
  exact lt_of_at h
theorem S2.of {l : Nat} {s s' : St} (h : S2 l s) (k : s'[l]? = s[l]?) : S2 l s' := by
  obtain ⟨a, b, h, q⟩ := h
  exact ⟨a, b, k.trans h, q⟩
theorem S2.trim {l n : Nat} {k : Cl} {s : St} (h : S2 l s) (hb : l < n) : S2 l (trim n k s) := h.of (trim_get hb)
theorem S2.app {l : Nat} {o : Ob} {s : St} (h : S2 l s) : S2 l (s ++ [o]) := h.of (app_old h.lt)
end Ds
namespace Ds
open PySem PySem.Spec PyProof.Rows L2 Dn
section
variable {α β : Type} {e : Ev} {s : St} {m : M D} {Y : Exn → Ev → St → Prop} {YF : Exn → St → Prop}
theorem RunX.ymono {m : M α} {Y Y' : Exn → Ev → St → Prop} {Q : α → Ev → St → Prop} (h : RunX Y m e s Q) (k : ∀ y e' s', Y y e' s' → Y' y e' s') : RunX Y' m e s Q := by
  unfold RunX at *
  cases q : m ⟨e, s⟩ with
  | ok a x => rw [q] at h; exact h
  | exc y x => rw [q] at h; exact k _ _ _ h
  | bad => rw [q] at h; exact h
theorem RunX.lift {m : M α} {Q : α → Ev → St → Prop} (h : Run m e s Q) : RunX Y m e s Q := RunX.ymono h fun _ _ _ z => z.elim
theorem FRunX.ymono {F : Fn} {as : Ev} {Y Y' : Exn → St → Prop} {Q : Cl → St → Prop} (h : FRunX Y F as s Q) (k : ∀ y s', Y y s' → Y' y s') : FRunX Y' F as s Q := by
  unfold FRunX at *
  cases q : F as s with
  | ok a x => rw [q] at h; exact h
  | exc y x => rw [q] at h; exact k _ _ h
  | bad => rw [q] at h; exact h
theorem FRunX.lift {F : Fn} {as : Ev} {Q : Cl → St → Prop} (h : FRun F as s Q) : FRunX YF F as s Q := FRunX.ymono h fun _ _ z => z.elim
theorem run_callX {F : Fn} {as : List (M Cl)} {Q : Cl → Ev → St → Prop} (h : RunX Y (evA as) e s fun cs e1 s1 => FRunX (fun y s2 => Y y e1 s2) F cs s1 fun c s2 => Q c e1 s2) : RunX Y (mCallX F as) e s Q :=
  run_bind (h.mono fun cs e1 s1 h => Run.i (by
    unfold FRunX at h
    dsimp only
    cases q : F cs s1 with
    | ok c s2 => rw [q] at h; exact h
    | exc y s2 => rw [q] at h; exact h
    | bad => rw [q] at h; exact h))
theorem run_methX {c m : Str} {F : Fn} {ml : M Nat} {as : List (M Cl)} {Q : Cl → Ev → St → Prop} (h : RunX Y ml e s fun l e1 s1 => ∃ fs, s1[l]? = some (.ins c fs) ∧ fs.lookup m = none ∧ RunX Y (evA as) e1 s1 fun cs e2 s2 => FRunX (fun y s3 => Y y e2 s3) F (.lo l :: cs) s2 fun x s3 => Q x e2 s3) : RunX Y (mMethX c m F ml as) e s Q :=
  run_bind (h.mono fun l _ _ ⟨fs, h1, h2, h3⟩ => run_bind (run_isIns ⟨fs, h1, h2, run_bind (h3.mono fun cs e1 s1 h => Run.i (by
    unfold FRunX at h
    dsimp only
    cases q : F (.lo l :: cs) s1 with
    | ok c s2 => rw [q] at h; exact h
    | exc y s2 => rw [q] at h; exact h
    | bad => rw [q] at h; exact h))⟩))
theorem run_raise {x : Str} {Q : Fl → Ev → St → Prop} (h : Y ⟨x, none⟩ e s) : RunX Y (mRaise x) e s Q := Run.i h
theorem run_raiseN {x : Str} {Q : Fl → Ev → St → Prop} (h : RunX Y m e s fun d e1 s1 => ∃ n, d = .int n ∧ Y ⟨x, some n⟩ e1 s1) : RunX Y (mRaiseN x m) e s Q :=
  run_bind (h.mono fun d e1 s1 ⟨n, h1, h2⟩ => Run.i (by
    subst h1
    exact h2))
theorem run_isB {b : Bool} {Q : D → Ev → St → Prop} (h : Q (.bool b) e s) : RunX Y (mIsB (some b)) e s Q := run_opt ⟨_, rfl, h⟩
theorem run_num {n : Int} {Q : D → Ev → St → Prop} (h : Q (.int n) e s) : RunX Y (mNum (some n)) e s Q := run_opt ⟨_, rfl, h⟩
end
end Ds
namespace Ds
open PySem PySem.Spec PyProof.Rows L2 Dn
section
variable {α β : Type} {e : Ev} {s : St} {m : M D} {Y : Exn → Ev → St → Prop}
theorem run_dpop2 {ml : M Nat} {mk : M D} {mc : M Cl} {Q : Cl → Ev → St → Prop} (h : RunX Y ml e s fun l e1 s1 => ∃ k0, s1[l]? = some (.dk k0) ∧ RunX Y mk e1 s1 fun d e2 s2 => RunX Y mc e2 s2 fun z e3 s3 => ∃ kvs k, s3[l]? = some (.dk kvs) ∧ toK d = some k ∧ (∀ c, valC kvs k = some c → Q c e3 (s3.set l (.dk (dropC kvs k)))) ∧ (valC kvs k = none → Q z e3 s3)) : RunX Y (mDPop2 ml mk mc) e s Q :=
  run_bind (h.mono fun l _ _ ⟨k0, h0, h⟩ => run_bind (run_isDk ⟨k0, h0, run_bind (h.mono fun d _ _ h => run_bind (h.mono fun z _ s3 ⟨kvs, k, h1, h2, h3, h4⟩ => Run.i (by
    dsimp only
    rw [h1, h2]
    dsimp only
    cases q : valC kvs k with
    | none => exact h4 q
    | some c => exact h3 c q)))⟩))
theorem run_pop0 {ml : M Nat} {Q : Cl → Ev → St → Prop} (h : RunX Y ml e s fun l e1 s1 => ∃ xs c, s1[l]? = some (.lst xs) ∧ xs[xs.length - 1]? = some c ∧ Q c e1 (s1.set l (.lst xs.dropLast))) : RunX Y (mPop0 ml) e s Q :=
  run_bind (run_bind (h.mono fun l _ s1 ⟨xs, c, h1, h2, h3⟩ => run_isLst ⟨xs, h1, Run.i (by
    dsimp only
    rw [h1]
    dsimp only
    rw [h2]
    exact h3)⟩))
theorem run_listD {ml : M Nat} {Q : List Cl → Ev → St → Prop} (h : RunX Y ml e s fun l e1 s1 => ∃ kvs, s1[l]? = some (.dk kvs) ∧ Q ((kvs.map fun kv => keyD kv.1).map Cl.sh) e1 s1) : RunX Y (mListD ml) e s Q :=
  run_bind (run_agC (run_lo (h.mono fun l _ s1 ⟨kvs, h1, h2⟩ => run_ag0 (Run.i (by
    dsimp only
    rw [h1]
    exact h2)))))
theorem run_dgetF {ml : M Nat} {mk : M D} {Q : Cl → Ev → St → Prop} (h : RunX Y ml e s fun l e1 s1 => RunX Y mk e1 s1 fun d e2 s2 => ∃ kvs k c, s2[l]? = some (.fk kvs) ∧ toK d = some k ∧ valC kvs k = some c ∧ Q c e2 s2) : RunX Y (mDGetF ml mk) e s Q :=
  run_bind (h.mono fun l _ _ h => run_bind (h.mono fun d _ _ ⟨kvs, k, c, h1, h2, h3, h4⟩ => Run.i (by
    dsimp only
    rw [h1, h2]
    dsimp only
    rw [h3]
    exact h4)))
theorem run_keysK {ml : M Nat} {Q : List D → Ev → St → Prop} (h : RunX Y ml e s fun l e1 s1 => ∃ kvs, s1[l]? = some (.fk kvs) ∧ Q (keysK kvs) e1 s1) : RunX Y (mKeysK ml) e s Q :=
  run_bind (h.mono fun l _ _ ⟨kvs, h1, h2⟩ => Run.i (by
    dsimp only
    rw [h1]
    exact h2))
theorem run_mLockK {p : M Nat} {m : M α} {Q : α → Ev → St → Prop} (h : RunX NoY p e s fun l _ _ => ∃ kvs, s[l]? = some (.dk kvs) ∧ RunX NoY m e (s.set l (.fk kvs)) fun x e1 s1 => ∃ kvs', s1[l]? = some (.fk kvs') ∧ Q x e1 (s1.set l (.dk kvs'))) : RunX Y (mLockK p m) e s Q := by
  refine Run.i ?_
  unfold mLockK
  unfold RunX at h
  cases q : p ⟨e, s⟩ with
  | bad => rw [q] at h; exact h.elim
  | exc x δ => rw [q] at h; exact h.elim
  | ok l δ =>
    rw [q] at h
    obtain ⟨kvs, h1, h2⟩ := h
    dsimp only
    rw [h1]
    dsimp only
    cases q2 : m ⟨e, s.set l (.fk kvs)⟩ with
    | ok y z =>
      rw [q2] at h2
      obtain ⟨kvs', h3, h4⟩ := h2
      dsimp only
      rw [h3]
      exact h4
    | exc y z => rw [q2] at h2; exact h2.elim
    | bad => rw [q2] at h2; exact h2.elim
theorem run_augF {c f : Str} {ml : M Nat} {F : Int → Int → Int} {k : Int} {Q : Fl → Ev → St → Prop} (h : RunX Y ml e s fun l e1 s1 => ∃ fs i, s1[l]? = some (.ins c fs) ∧ fs.length < 1000 ∧ fs.lookup f = some (.sh (.int i)) ∧ Q .nx e1 (s1.set l (.ins c (putFC f (.sh (.int (F i k))) fs)))) : RunX Y (mAugF c ml f F k) e s Q :=
  run_bind (h.mono fun l _ _ ⟨fs, i, h1, h2, h3, h4⟩ => Run.i (by
    dsimp only
    rw [h1]
    dsimp only
    rw [if_pos ⟨rfl, h2⟩, h3]
    exact h4))
theorem run_rev {Q : D → Ev → St → Prop} (h : RunX Y m e s fun d e1 s1 => ∃ c, dRev d = some c ∧ Q c e1 s1) : RunX Y (mRev m) e s Q := run_bind (h.mono fun _ _ _ h => run_opt h)
end
theorem set_id {s : St} {l : Nat} {o : Ob} (h : s[l]? = some o) : s.set l o = s := by
  apply List.ext_getElem?
  intro j
  by_cases hj : j = l
  · subst hj; rw [set_same (lt_of_at h), h]
  · rw [set_other hj]
end Ds
local macro_rules | `(tactic| walk_at "ds") => `(tactic| first
  | ((with_reducible apply Ds.run_var); (exact rfl))
  | ((with_reducible apply Ds.run_lv); (exact rfl))
  | ((with_reducible apply Ds.run_clD); (exact rfl))
  | ((with_reducible apply Ds.run_clL); (exact rfl))
  | with_reducible refine Ds.run_sh ?_
  | with_reducible refine Ds.run_lo ?_
  | with_reducible refine Ds.run_d ?_
  | with_reducible refine Ds.run_l ?_
  | with_reducible refine Ds.run_c ?_
  | with_reducible refine Ds.run_bin ?_
  | with_reducible refine Ds.run_seq ?_
  | with_reducible refine Ds.seq_nx ?_
  | with_reducible refine Ds.seq_rt ?_
  | with_reducible refine Ds.run_set ?_
  | with_reducible refine Ds.run_ret ?_
  | with_reducible refine Ds.run_ifS ?_
  | with_reducible refine Ds.run_test ?_
  | with_reducible refine Dn.toB_bl ?_
  | with_reducible refine Ds.run_chain ?_
  | with_reducible refine Ds.run_notT ?_
  | with_reducible refine Ds.run_andT ?_
  | with_reducible refine Ds.run_orT ?_
  | with_reducible refine Ds.run_andV ?_
  | with_reducible refine Ds.run_orV ?_
  | with_reducible refine Ds.run_notV ?_
  | with_reducible refine Ds.run_ifE ?_
  | with_reducible refine Ds.run_nx ?_
  | with_reducible refine Ds.run_yes ?_
  | with_reducible refine Ds.run_pure ?_
  | with_reducible refine Ds.run_agC ?_
  | with_reducible refine Ds.run_ag0 ?_
  | with_reducible refine Ds.run_p1 ?_
  | with_reducible refine Ds.run_p0 ?_
  | with_reducible refine Ds.run_callB ?_
  | with_reducible refine Ds.run_callC ?_
  | with_reducible refine Ds.run_call ?_
  | with_reducible refine Ds.run_isi ?_
  | with_reducible refine Ds.run_kin ?_
  | with_reducible refine Ds.run_m1 ?_
  | with_reducible refine Ds.run_m1C ?_
  | with_reducible refine Ds.run_ixC ?_
  | with_reducible refine Ds.run_slC ?_
  | with_reducible refine Ds.run_binC ?_
  | with_reducible refine Ds.run_tup ?_
  | with_reducible refine Ds.run_lst ?_
  | with_reducible refine Ds.run_lsO ?_
  | with_reducible refine Ds.run_fr ?_
  | with_reducible refine Ds.run_new ?_
  | with_reducible refine Ds.run_seal ?_
  | with_reducible refine Ds.run_listOf ?_
  | with_reducible refine Ds.run_tupOf ?_
  | with_reducible refine Ds.run_catO ?_
  | with_reducible refine Ds.run_texts ?_
  | with_reducible refine Ds.run_neg ?_
  | with_reducible refine Ds.run_sl ?_
  | with_reducible refine Ds.run_part ?_
  | with_reducible refine Ds.run_noPart ?_
  | with_reducible refine Ds.run_expr ?_
  | with_reducible refine Ds.run_dget ?_
  | with_reducible refine Ds.run_dput ?_
  | with_reducible refine Ds.run_din ?_
  | with_reducible refine Ds.run_dnew ?_
  | with_reducible refine Ds.run_disp ?_
  | with_reducible refine Ds.run_upd ?_
  | with_reducible refine Ds.run_setIx ?_
  | with_reducible refine Ds.run_app ?_
  | with_reducible refine Ds.run_ext ?_
  | with_reducible refine Ds.run_popAt ?_
  | with_reducible refine Ds.run_asg ?_
  | with_reducible refine Ds.run_iter ?_
  | with_reducible refine Ds.run_rng1 ?_
  | with_reducible refine Ds.run_rng2 ?_
  | with_reducible refine Ds.run_for ?_
  | with_reducible refine Ds.run_enum ?_
  | with_reducible refine Ds.run_zip ?_
  | with_reducible refine Ds.run_rng3 ?_
  | with_reducible refine Ds.run_kget ?_
  | with_reducible refine Ds.run_sortD ?_
  | with_reducible refine Ds.run_dget2 ?_
  | with_reducible refine Ds.run_tget ?_
  | with_reducible refine Ds.run_tget2 ?_
  | with_reducible refine Ds.run_tput ?_
  | with_reducible refine Ds.run_tin ?_
  | with_reducible refine Ds.run_tnew ?_
  | with_reducible refine Ds.run_fld ?_
  | with_reducible refine Ds.run_setF ?_
  | with_reducible refine Ds.run_meth ?_
  | with_reducible refine Ds.run_make ?_
  | with_reducible refine Ds.run_mLock ?_
  | with_reducible refine Ds.run_keysT ?_
  | with_reducible refine Ds.run_sortL ?_
  | with_reducible refine Ds.run_sortDT ?_
  | with_reducible refine Ds.run_listR1 ?_
  | with_reducible refine Ds.run_callX ?_
  | with_reducible refine Ds.run_methX ?_
  | with_reducible refine Ds.run_raise ?_
  | with_reducible refine Ds.run_raiseN ?_
  | with_reducible refine Ds.run_isB ?_
  | with_reducible refine Ds.run_num ?_
  | with_reducible refine Ds.run_dpop2 ?_
  | with_reducible refine Ds.run_pop0 ?_
  | with_reducible refine Ds.run_listD ?_
  | with_reducible refine Ds.run_dgetF ?_
  | with_reducible refine Ds.run_keysK ?_
  | with_reducible refine Ds.run_mLockK ?_
  | with_reducible refine Ds.run_augF ?_
  | with_reducible refine Ds.run_rev ?_
  | with_reducible refine Ds.run_forL_nil ?_
  | with_reducible refine Ds.run_comp ?_
  | with_reducible refine Dn.bx_add_int ?_
  | with_reducible refine Dn.bx_sub ?_
  | with_reducible refine Dn.bx_lt ?_
  | with_reducible refine Dn.bx_le ?_
  | with_reducible refine Dn.bx_gt ?_
  | with_reducible refine Dn.bx_ge ?_
  | with_reducible refine Dn.bx_eq_int ?_
  | with_reducible refine Dn.bx_eq_str ?_
  | with_reducible refine Dn.bx_eq_bl ?_
  | with_reducible refine Dn.bx_ne_int ?_
  | with_reducible refine Dn.bx_ne_str ?_
  | with_reducible refine Dn.bx_ne_bl ?_
  | with_reducible refine Dn.bx_in_str ?_
  | with_reducible refine Dn.bx_nin_str ?_
  | with_reducible refine Dn.bx_is_bl ?_
  | with_reducible refine Dn.bx_isNot_bl ?_
  | with_reducible refine Dn.bx_is_non ?_
  | with_reducible refine Dn.bx_isNot_non ?_
  | with_reducible refine Dn.bx_sl_tup ?_
  | with_reducible refine Dn.bx_sl_lst ?_
  | with_reducible refine Dn.bx_neg ?_
  | with_reducible refine Dn.bx_len_lst ?_
  | with_reducible refine Dn.bx_len_tup ?_
  | ((with_reducible apply Dn.bx_len_str); (first | assumption | (apply Dn.line_of; omega)))
  | ((with_reducible apply Dn.bx_mod); (first | assumption | omega))
  | ((with_reducible apply Dn.bx_div); (first | assumption | omega))
  | ((with_reducible apply Dn.bx_mul); (first | assumption | omega))
  | ((with_reducible apply Dn.bx_pow); (decide))
  | ((with_reducible apply Dn.bx_rep); (first | assumption | (refine ⟨?_, ?_, of_decide_eq_true rfl⟩ <;> omega)))
  | ((with_reducible apply Dn.bx_add_str); (first | assumption | (apply Dn.line_of; omega)))
  | ((with_reducible apply Dn.bx_sl_str); (first | assumption | (apply Dn.line_of; omega)))
  | ((with_reducible apply Dn.bx_rng1); (first | assumption | (apply Dn.inLine_of; omega)))
  | ((with_reducible apply Dn.bx_isi_str); (first | assumption | rfl))
  | ((with_reducible apply Dn.bx_isi_bool); (first | assumption | rfl))
  | ((with_reducible apply Dn.bx_isi_int); (first | assumption | rfl))
  | ((with_reducible apply Dn.bx_isi_tup); (first | assumption | rfl))
  | with_reducible refine Dn.bx_int_int ?_
  | with_reducible refine Dn.bx_int_bl ?_
  | with_reducible refine Dn.bx_II ?_
  | with_reducible refine Dn.bx_tuple_lst ?_
  | with_reducible refine Dn.bx_tuple_tup ?_
  | with_reducible refine Dn.bx_list_lst ?_
  | with_reducible refine Dn.bx_list_tup ?_
  | with_reducible refine Dn.bx_it_lst ?_
  | with_reducible refine Dn.bx_it_tup ?_
  | with_reducible refine Dn.bx_it_str ?_
  | with_reducible refine Dn.two_dT ?_
  | with_reducible refine Dn.two_not ?_
  | with_reducible refine Dn.two_T ?_
  | with_reducible refine Dn.two_F ?_
  | (with_reducible refine Ds.two_Tb (by decide) ?_)
  | (with_reducible refine Ds.two_Fb (by decide) ?_)
  | with_reducible refine Ds.fin_rt ?_
  | with_reducible refine Ds.fin_nx ?_
  | with_reducible refine Ds.turn_nx ?_
  | with_reducible refine Ds.turn_ct ?_
  | with_reducible refine Ds.turn_bk ?_
  | with_reducible refine Ds.turn_rt ?_
  | with_reducible refine Dn.flat_int ?_
  | with_reducible refine Dn.flat_str ?_
  | with_reducible refine Dn.flat_bl ?_
  | (refine ⟨_, rfl, Nat.le_of_ble_eq_true rfl, ?_⟩)
  | (refine ⟨Nat.le_of_ble_eq_true rfl, ?_⟩)
  | (refine ⟨_, rfl, ?_⟩))
namespace Ds.K10
open PySem PySem.Spec PyProof.Rows L2 Dn
def c_NUMBERS : D := (PyData.int 10000)
def c_REST : D := (PyData.int 10007)
def m_first_name : M Fl := (mRet (mSh (mBin dIx (mM1 sSplit (mVar 0) (mC (PyData.str "."))) (mC (PyData.int 0)))))
def f_first_name : Fn := fnF 1 1 m_first_name
def m_in_record : M Fl := (mRet (mSh (mAndV (mBin dIn (mC (PyData.str ".")) (mVar 0)) (mBin dEq (mD (mCall f_first_name [(mSh (mVar 0))])) (mVar 1)))))
def f_in_record : Fn := fnF 2 2 m_in_record
def m_rows_in : M Fl := (mSeq (mIfS (mTest (mBin dEq (mBin dIx (mVar 0) (mC (PyData.int 0))) (mC (PyData.str "choose")))) (mRet (mSh (mBin dIx (mVar 0) (mC (PyData.int 1))))) mNx)
  (mSeq (mIfS (mTest (mBin dEq (mBin dIx (mVar 0) (mC (PyData.int 0))) (mC (PyData.str "loop")))) (mRet (mSh (mTup [(mSh (mBin dIx (mVar 0) (mC (PyData.int 1))))]))) mNx)
  (mRet (mSh (mTup [])))))
def f_rows_in : Fn := fnF 1 1 m_rows_in
def m_def_of : M Fl := (mSeq (mFor (mIter (mBin dIx (mVar 0) (mC (PyData.int 0)))) (mgName 2) (mIfS (mTest (mBin dEq (mBin dIx (mVar 2) (mC (PyData.int 0))) (mVar 1))) (mRet (mSh (mVar 2))) mNx))
  (mRet (mSh (mC PyData.none))))
def f_def_of : Fn := fnF 2 3 m_def_of
def m_row_of : M Fl := (mSeq (mIfS (mTest (mBin dEq (mVar 1) (mC (PyData.str "")))) (mRet (mSh (mBin dIx (mVar 0) (mC (PyData.int 1))))) mNx)
  (mRet (mSh (mBin dIx (mD (mCall f_def_of [(mSh (mVar 0)), (mSh (mVar 1))])) (mC (PyData.int 3))))))
def f_row_of : Fn := fnF 2 2 m_row_of
def m_words_along : M Fl := (mSeq (mSet 2 (mSh (mD (mCall f_row_of [(mSh (mVar 0)), (mSh (mBin dIx (mVar 1) (mC (PyData.int 0))))]))))
  (mSeq (mSet 3 (mLo (mNew (mLsO [(mSh (mTup [(mSh (mVar 2)), (mSh (mBin dIx (mVar 1) (mC (PyData.int 1))))]))]))))
  (mSeq (mFor (mRng3 (mC (PyData.int 2)) (mCallB bLen [(mSh (mVar 1))]) (mC (PyData.int 2))) (mgName 4) (mSeq (mSet 2 (mSh (mBin dIx (mD (mCall f_rows_in [(mSh (mBin dIx (mVar 2) (mBin dIx (mVar 1) (mBin dSub (mVar 4) (mC (PyData.int 1))))))])) (mBin dIx (mVar 1) (mVar 4)))))
  (mApp (mLV 3) (mSh (mTup [(mSh (mVar 2)), (mSh (mBin dIx (mVar 1) (mBin dAdd (mVar 4) (mC (PyData.int 1)))))])))))
  (mRet (mSh (mSeal (mLV 3)))))))
def f_words_along : Fn := fnF 2 5 m_words_along
def m_word_at : M Fl := (mSeq (mAsg (mgTup 2 (mgCons (mgName 2) (mgCons (mgName 3) mgNil))) (mSh (mBin dIx (mD (mCall f_words_along [(mSh (mVar 0)), (mSh (mVar 1))])) (mNeg (mC (PyData.int 1))))))
  (mSeq (mIfS (mTest (mBin dEq (mVar 3) (mCallB bLen [(mSh (mVar 2))]))) (mRet (mSh (mC PyData.none))) mNx)
  (mRet (mSh (mBin dIx (mVar 2) (mVar 3))))))
def f_word_at : Fn := fnF 2 4 m_word_at
def m_behind (r : Nat → Fn) : M Fl := (mSeq (mAsg (mgTup 2 (mgCons (mgName 3) (mgCons (mgName 4) mgNil))) (mSh (mBin dIx (mD (mCall f_words_along [(mSh (mVar 0)), (mSh (mVar 1))])) (mNeg (mC (PyData.int 1))))))
  (mSeq (mIfS (mOrT (mTest (mBin dLt (mBin dAdd (mVar 4) (mC (PyData.int 1))) (mCallB bLen [(mSh (mVar 3))]))) (mTest (mBin dEq (mCallB bLen [(mSh (mVar 1))]) (mC (PyData.int 2))))) (mRet (mSh (mBin dAdd (mSl (mVar 1) mNoPart (mPart (mNeg (mC (PyData.int 1))))) (mTup [(mSh (mBin dAdd (mVar 4) (mC (PyData.int 1))))])))) mNx)
  (mSeq (mSet 2 (mSh (mSl (mVar 1) mNoPart (mPart (mNeg (mC (PyData.int 2)))))))
  (mSeq (mIfS (mTest (mBin dEq (mBin dIx (mD (mCall f_word_at [(mSh (mVar 0)), (mSh (mVar 2))])) (mC (PyData.int 0))) (mC (PyData.str "loop")))) (mRet (mSh (mVar 2))) mNx)
  (mRet (mSh (mD (mCall (r 0) [(mSh (mVar 0)), (mSh (mVar 2))]))))))))
def f_G7 : Nat → Nat → Fn
  | 0, _ => fun _ _ => .bad
  | k + 1, _ => fnF 2 5 (m_behind (f_G7 k))
def f_behind : Fn := f_G7 14 0
def m_first_place : M Fl := (mRet (mSh (mTup [(mSh (mVar 1)), (mSh (mC (PyData.int 0)))])))
def f_first_place : Fn := fnF 2 2 m_first_place
def m_inside : M Fl := (mSeq (mSet 3 (mSh (mD (mCall f_word_at [(mSh (mVar 0)), (mSh (mVar 1))]))))
  (mSeq (mIfS (mTest (mBin dNe (mBin dIx (mD (mCall f_rows_in [(mSh (mVar 3))])) (mVar 2)) (mTup []))) (mRet (mSh (mBin dAdd (mVar 1) (mTup [(mSh (mVar 2)), (mSh (mC (PyData.int 0)))])))) mNx)
  (mSeq (mIfS (mTest (mBin dEq (mBin dIx (mVar 3) (mC (PyData.int 0))) (mC (PyData.str "loop")))) (mRet (mSh (mVar 1))) mNx)
  (mRet (mSh (mD (mCall f_behind [(mSh (mVar 0)), (mSh (mVar 1))])))))))
def f_inside : Fn := fnF 3 4 m_inside
def m_out_of : M Fl := (mSeq (mSet 3 (mSh (mSl (mVar 1) mNoPart (mPart (mNeg (mC (PyData.int 2)))))))
  (mSeq (mWhile (mTest (mBin dGt (mVar 2) (mC (PyData.int 0)))) (mSeq (mIfS (mTest (mBin dEq (mBin dIx (mD (mCall f_word_at [(mSh (mVar 0)), (mSh (mVar 3))])) (mC (PyData.int 0))) (mC (PyData.str "loop")))) (mSet 2 (mSh (mBin dSub (mVar 2) (mC (PyData.int 1))))) mNx)
  (mIfS (mTest (mBin dGt (mVar 2) (mC (PyData.int 0)))) (mSet 3 (mSh (mSl (mVar 3) mNoPart (mPart (mNeg (mC (PyData.int 2))))))) mNx)) 1000000)
  (mRet (mSh (mD (mCall f_behind [(mSh (mVar 0)), (mSh (mVar 3))]))))))
def f_out_of : Fn := fnF 3 4 m_out_of
def m_is_answer : M Fl := (mRet (mSh (mAndV (mIsi "int" (mVar 0)) (mAndV (mNotV (mIsi "bool" (mVar 0))) (mChain dLe dLt (mC (PyData.int 0)) (mVar 0) (mVar 1))))))
def f_is_answer : Fn := fnF 2 2 m_is_answer
def m_both : M Fl := (mRet (mSh (mCallB bTuple [(mSh (mTexts (fun l => .list ((sortT l).map PyData.str)) (mSh (mBin dAdd (mVar 0) (mVar 1)))))])))
def f_both : Fn := fnF 2 2 m_both
def m_Frame_shown : M Fl := (mRet (mSh (mCallB bTuple [(mSh (mFr (mComp (mIter (mSortD (mL (mFld "Frame" (mLV 0) "things")))) [1] (mgName 1) mYes (mBin dAdd (mTup [(mSh (mVar 1))]) (mD (mDGet (mL (mFld "Frame" (mLV 0) "things")) (mVar 1)))))))])))
def f_Frame_shown : Fn := fnF 1 2 m_Frame_shown
def m_Frame___init__ : M Fl := (mSeq (mSetF "Frame" (mLV 0) "called_at" (mSh (mVar 1)))
  (mSetF "Frame" (mLV 0) "things" (mLo mDNew)))
def f_Frame___init__ : Fn := fnF 2 2 m_Frame___init__
def m_Frame_empty : M Fl := (mFor (mIter (mVar 1)) (mgName 2) (mExpr (mSh (mD (mDPop2 (mL (mFld "Frame" (mLV 0) "things")) (mVar 2) (mSh (mC PyData.none)))))))
def f_Frame_empty : Fn := fnF 2 3 m_Frame_empty
def m_Frame_kept_here : M Fl := (mRet (mSh (mFr (mComp (mIter (mSortD (mL (mFld "Frame" (mLV 0) "things")))) [2] (mgName 2) (mTest (mBin dNe (mBin dIx (mD (mDGet (mL (mFld "Frame" (mLV 0) "things")) (mVar 2))) (mC (PyData.int 1))) (mTup []))) (mTup [(mSh (mVar 1)), (mSh (mVar 2)), (mSh (mBin dIx (mD (mDGet (mL (mFld "Frame" (mLV 0) "things")) (mVar 2))) (mC (PyData.int 1))))])))))
def f_Frame_kept_here : Fn := fnF 2 3 m_Frame_kept_here
def m_Frame_look : M Fl := (mRet (mSh (mD (mDGet2 (mL (mFld "Frame" (mLV 0) "things")) (mVar 1) (mSh (mTup [(mSh (mC (PyData.int 0))), (mSh (mTup []))]))))))
def f_Frame_look : Fn := fnF 2 2 m_Frame_look
def m_Frame_put : M Fl := (mIfS (mTest (mBin dEq (mVar 2) (mTup [(mSh (mC (PyData.int 0))), (mSh (mTup []))]))) (mExpr (mSh (mD (mDPop2 (mL (mFld "Frame" (mLV 0) "things")) (mVar 1) (mSh (mC PyData.none)))))) (mDPut (mL (mFld "Frame" (mLV 0) "things")) (mVar 1) (mSh (mVar 2))))
def f_Frame_put : Fn := fnF 3 3 m_Frame_put
def m_Run_go_back : M Fl := (mSeq (mSet 1 (mLo (mL (mPop0 (mL (mFld "Run" (mLV 0) "frames"))))))
  (mIfS (mTest (mBinC dEq (mLo (mL (mFld "Run" (mLV 0) "frames"))) (mSh (mLst [])))) (mSeq (mExt (mL (mFld "Run" (mLV 0) "leavings")) (mSh (mD (mMeth "Frame" "kept_here" f_Frame_kept_here (mLV 1) [(mSh (mD (mFld "Run" (mLV 0) "place")))]))))
  (mSetF "Run" (mLV 0) "over_by" (mSh (mTup [(mSh (mC (PyData.str "ended")))])))) (mSeq mBad (mSeq mBad (mSeq mBad (mSeq mBad (mSeq mBad (mSeq mBad mBad))))))))
def f_Run_go_back : Fn := fnF 1 7 m_Run_go_back
def m_Run_come_to : M Fl := (mSeq (mSetF "Run" (mLV 0) "place" (mSh (mVar 1)))
  (mWhile (mAndT (mTest (mBin dIs (mD (mFld "Run" (mLV 0) "over_by")) (mC PyData.none))) (mTest (mBin dIs (mD (mCall f_word_at [(mSh (mD (mFld "Run" (mLV 0) "whole"))), (mSh (mD (mFld "Run" (mLV 0) "place")))])) (mC PyData.none)))) (mExpr (mSh (mD (mMeth "Run" "go_back" f_Run_go_back (mLV 0) [])))) 1000000))
def f_Run_come_to : Fn := fnF 2 2 m_Run_come_to
def m_Run___init__ : M Fl := (mSeq (mSetF "Run" (mLV 0) "whole" (mSh (mVar 1)))
  (mSeq (mSetF "Run" (mLV 0) "given" (mSh (mVar 2)))
  (mSeq (mSetF "Run" (mLV 0) "used" (mSh (mC (PyData.int 0))))
  (mSeq (mSetF "Run" (mLV 0) "steps" (mSh (mC (PyData.int 0))))
  (mSeq (mSetF "Run" (mLV 0) "numbers" (mLo (mNew (mLsO []))))
  (mSeq (mSetF "Run" (mLV 0) "leavings" (mLo (mNew (mLsO []))))
  (mSeq (mSetF "Run" (mLV 0) "frames" (mLo (mNew (mLsO [(mLo (mMake "Frame" f_Frame___init__ [(mSh (mC PyData.none))]))]))))
  (mSeq (mSetF "Run" (mLV 0) "over_by" (mSh (mC PyData.none)))
  (mSeq (mSetF "Run" (mLV 0) "place" (mSh (mC PyData.none)))
  (mExpr (mSh (mD (mMeth "Run" "come_to" f_Run_come_to (mLV 0) [(mSh (mD (mCall f_first_place [(mSh (mVar 1)), (mSh (mC (PyData.str "")))])))])))))))))))))
def f_Run___init__ : Fn := fnF 3 3 m_Run___init__
def m_Run_answer : M Fl := (mSeq (mSet 2 (mSh (mBin dIx (mD (mFld "Run" (mLV 0) "given")) (mD (mFld "Run" (mLV 0) "used")))))
  (mSeq (mIfS (mNotT (mTest (mD (mCall f_is_answer [(mSh (mVar 2)), (mSh (mVar 1))])))) mBad mNx)
  (mSeq (mAugF "Run" (mLV 0) "used" (fun i j => i + j) 1)
  (mRet (mSh (mVar 2))))))
def f_Run_answer : Fn := fnF 2 3 m_Run_answer
def m_Run_take_away : M Fl := (mSeq (mSet 3 (mSh (mLst [(mSh (mBin dIx (mVar 2) (mC (PyData.int 1))))])))
  (mSeq (mIfS (mTest (mBin dEq (mBin dIx (mVar 2) (mC (PyData.int 0))) (mC (PyData.str "clear")))) (mSet 3 (mSh (mFr (mComp (mIter (mFr (mListD (mL (mFld "Frame" (mLV 1) "things"))))) [5] (mgName 5) (mTest (mD (mCall f_in_record [(mSh (mVar 5)), (mSh (mBin dIx (mVar 2) (mC (PyData.int 1))))]))) (mVar 5))))) (mIfS (mTest (mBin dEq (mBin dIx (mVar 2) (mC (PyData.int 0))) (mC (PyData.str "drop")))) (mSeq (mSet 3 (mSh (mCallB bList [(mSh (mBin dIx (mVar 2) (mC (PyData.int 1))))])))
  (mSeq (mSet 4 (mLo (mMake "Frame" f_Frame___init__ [(mSh (mC PyData.none))])))
  (mSeq (mFor (mIter (mVar 3)) (mgName 5) (mExpr (mSh (mD (mMeth "Frame" "put" f_Frame_put (mLV 4) [(mSh (mVar 5)), (mSh (mD (mMeth "Frame" "look" f_Frame_look (mLV 1) [(mSh (mVar 5))])))])))))
  (mExt (mL (mFld "Run" (mLV 0) "leavings")) (mSh (mD (mMeth "Frame" "kept_here" f_Frame_kept_here (mLV 4) [(mSh (mD (mFld "Run" (mLV 0) "place")))]))))))) mNx))
  (mExpr (mSh (mD (mMeth "Frame" "empty" f_Frame_empty (mLV 1) [(mSh (mVar 3))]))))))
def f_Run_take_away : Fn := fnF 3 6 m_Run_take_away
def m_Run_change : M Fl := (mSeq (mSet 2 (mLo (mL (mIxC (mLo (mL (mFld "Run" (mLV 0) "frames"))) (mNeg (mC (PyData.int 1)))))))
  (mIfS (mTest (mBin dEq (mBin dIx (mVar 1) (mC (PyData.int 0))) (mC (PyData.str "take")))) (mExpr (mSh (mD (mMeth "Frame" "put" f_Frame_put (mLV 2) [(mSh (mBin dIx (mVar 1) (mC (PyData.int 1)))), (mSh (mTup [(mSh (mD (mMeth "Run" "answer" f_Run_answer (mLV 0) [(mSh (mC c_NUMBERS))]))), (mSh (mTup [(mSh (mBin dIx (mVar 1) (mC (PyData.int 2))))]))]))])))) (mIfS (mTest (mBin dEq (mBin dIx (mVar 1) (mC (PyData.int 0))) (mC (PyData.str "ask")))) (mExpr (mSh (mD (mMeth "Frame" "put" f_Frame_put (mLV 2) [(mSh (mBin dIx (mVar 1) (mC (PyData.int 1)))), (mSh (mTup [(mSh (mD (mMeth "Run" "answer" f_Run_answer (mLV 0) [(mSh (mC c_NUMBERS))]))), (mSh (mTup []))]))])))) (mIfS (mTest (mBin dEq (mBin dIx (mVar 1) (mC (PyData.int 0))) (mC (PyData.str "number")))) (mExpr (mSh (mD (mMeth "Frame" "put" f_Frame_put (mLV 2) [(mSh (mBin dIx (mVar 1) (mC (PyData.int 1)))), (mSh (mTup [(mSh (mBin dIx (mVar 1) (mC (PyData.int 2)))), (mSh (mTup []))]))])))) (mIfS (mTest (mBin dEq (mBin dIx (mVar 1) (mC (PyData.int 0))) (mC (PyData.str "copy")))) (mExpr (mSh (mD (mMeth "Frame" "put" f_Frame_put (mLV 2) [(mSh (mBin dIx (mVar 1) (mC (PyData.int 1)))), (mSh (mD (mMeth "Frame" "look" f_Frame_look (mLV 2) [(mSh (mBin dIx (mVar 1) (mC (PyData.int 2))))])))])))) (mIfS (mTest (mBin dEq (mBin dIx (mVar 1) (mC (PyData.int 0))) (mC (PyData.str "mix")))) (mSeq (mAsg (mgTup 2 (mgCons (mgName 3) (mgCons (mgName 4) mgNil))) (mSh (mD (mMeth "Frame" "look" f_Frame_look (mLV 2) [(mSh (mBin dIx (mVar 1) (mC (PyData.int 2))))]))))
  (mSeq (mAsg (mgTup 2 (mgCons (mgName 5) (mgCons (mgName 6) mgNil))) (mSh (mD (mMeth "Frame" "look" f_Frame_look (mLV 2) [(mSh (mBin dIx (mVar 1) (mC (PyData.int 3))))]))))
  (mExpr (mSh (mD (mMeth "Frame" "put" f_Frame_put (mLV 2) [(mSh (mBin dIx (mVar 1) (mC (PyData.int 1)))), (mSh (mTup [(mSh (mBin dMod (mBin dAdd (mVar 3) (mBin dMul (mC (PyData.int 2)) (mVar 5))) (mC c_REST))), (mSh (mD (mCall f_both [(mSh (mVar 4)), (mSh (mVar 6))])))]))])))))) (mIfS (mTest (mBin dEq (mBin dIx (mVar 1) (mC (PyData.int 0))) (mC (PyData.str "open")))) (mExpr (mSh (mD (mMeth "Frame" "put" f_Frame_put (mLV 2) [(mSh (mBin dIx (mVar 1) (mC (PyData.int 1)))), (mSh (mTup [(mSh (mBin dMod (mBin dIx (mD (mMeth "Frame" "look" f_Frame_look (mLV 2) [(mSh (mBin dIx (mVar 1) (mC (PyData.int 2))))])) (mC (PyData.int 0))) (mC (PyData.int 2)))), (mSh (mTup []))]))])))) (mIfS (mTest (mBin dEq (mBin dIx (mVar 1) (mC (PyData.int 0))) (mC (PyData.str "tell")))) (mApp (mL (mFld "Run" (mLV 0) "numbers")) (mSh (mBin dIx (mD (mMeth "Frame" "look" f_Frame_look (mLV 2) [(mSh (mBin dIx (mVar 1) (mC (PyData.int 1))))])) (mC (PyData.int 0))))) (mExpr (mSh (mD (mMeth "Run" "take_away" f_Run_take_away (mLV 0) [(mLo (mLV 2)), (mSh (mVar 1))]))))))))))))
def f_Run_change : Fn := fnF 2 7 m_Run_change
def m_Run_call : M Fl := (mSeq mBad (mSeq mBad (mSeq mBad (mSeq mBad (mSeq mBad mBad)))))
def f_Run_call : Fn := fnF 2 6 m_Run_call
def m_Run_fall : M Fl := (mSeq mBad (mSeq mBad mBad))
def f_Run_fall : Fn := fnF 2 4 m_Run_fall
def m_Run_lead : M Fl := (mSeq (mIfS (mTest (mBin dEq (mBin dIx (mVar 1) (mC (PyData.int 0))) (mC (PyData.str "choose")))) (mExpr (mSh (mD (mMeth "Run" "come_to" f_Run_come_to (mLV 0) [(mSh (mD (mCall f_inside [(mSh (mD (mFld "Run" (mLV 0) "whole"))), (mSh (mD (mFld "Run" (mLV 0) "place"))), (mSh (mD (mMeth "Run" "answer" f_Run_answer (mLV 0) [(mSh (mCallB bLen [(mSh (mBin dIx (mVar 1) (mC (PyData.int 1))))]))])))])))])))) (mIfS (mTest (mBin dEq (mBin dIx (mVar 1) (mC (PyData.int 0))) (mC (PyData.str "loop")))) (mExpr (mSh (mD (mMeth "Run" "come_to" f_Run_come_to (mLV 0) [(mSh (mD (mCall f_inside [(mSh (mD (mFld "Run" (mLV 0) "whole"))), (mSh (mD (mFld "Run" (mLV 0) "place"))), (mSh (mC (PyData.int 0)))])))])))) (mIfS (mTest (mBin dEq (mBin dIx (mVar 1) (mC (PyData.int 0))) (mC (PyData.str "out")))) (mExpr (mSh (mD (mMeth "Run" "come_to" f_Run_come_to (mLV 0) [(mSh (mD (mCall f_out_of [(mSh (mD (mFld "Run" (mLV 0) "whole"))), (mSh (mD (mFld "Run" (mLV 0) "place"))), (mSh (mBin dIx (mVar 1) (mC (PyData.int 1))))])))])))) (mIfS (mTest (mBin dEq (mBin dIx (mVar 1) (mC (PyData.int 0))) (mC (PyData.str "call")))) (mExpr (mSh (mD (mMeth "Run" "call" f_Run_call (mLV 0) [(mSh (mVar 1))])))) (mIfS (mOrT (mTest (mBin dEq (mBin dIx (mVar 1) (mC (PyData.int 0))) (mC (PyData.str "fault")))) (mAndT (mTest (mBin dEq (mBin dIx (mVar 1) (mC (PyData.int 0))) (mC (PyData.str "risk")))) (mTest (mBin dEq (mD (mMeth "Run" "answer" f_Run_answer (mLV 0) [(mSh (mC (PyData.int 2)))])) (mC (PyData.int 1)))))) (mExpr (mSh (mD (mMeth "Run" "fall" f_Run_fall (mLV 0) [(mSh (mBin dIx (mVar 1) (mC (PyData.int 1))))])))) (mIfS (mTest (mBin dEq (mBin dIx (mVar 1) (mC (PyData.int 0))) (mC (PyData.str "back")))) (mSeq (mExpr (mSh (mD (mMeth "Run" "go_back" f_Run_go_back (mLV 0) []))))
  (mIfS (mTest (mBin dIs (mD (mFld "Run" (mLV 0) "over_by")) (mC PyData.none))) (mExpr (mSh (mD (mMeth "Run" "come_to" f_Run_come_to (mLV 0) [(mSh (mD (mFld "Run" (mLV 0) "place")))])))) mNx)) (mRet (mSh (mC (PyData.bool false))))))))))
  (mRet (mSh (mC (PyData.bool true)))))
def f_Run_lead : Fn := fnF 2 2 m_Run_lead
def m_Run_step : M Fl := (mSeq (mSet 1 (mSh (mD (mCall f_word_at [(mSh (mD (mFld "Run" (mLV 0) "whole"))), (mSh (mD (mFld "Run" (mLV 0) "place")))]))))
  (mSeq (mIfS (mNotT (mTest (mD (mMeth "Run" "lead" f_Run_lead (mLV 0) [(mSh (mVar 1))])))) (mSeq (mIfS (mTest (mBin dNe (mBin dIx (mVar 1) (mC (PyData.int 0))) (mC (PyData.str "risk")))) (mExpr (mSh (mD (mMeth "Run" "change" f_Run_change (mLV 0) [(mSh (mVar 1))])))) mNx)
  (mExpr (mSh (mD (mMeth "Run" "come_to" f_Run_come_to (mLV 0) [(mSh (mD (mCall f_behind [(mSh (mD (mFld "Run" (mLV 0) "whole"))), (mSh (mD (mFld "Run" (mLV 0) "place")))])))]))))) mNx)
  (mAugF "Run" (mLV 0) "steps" (fun i j => i + j) 1)))
def f_Run_step : Fn := fnF 1 2 m_Run_step
def m_Run_wants : M Fl := (mSeq (mSet 1 (mSh (mD (mCall f_word_at [(mSh (mD (mFld "Run" (mLV 0) "whole"))), (mSh (mD (mFld "Run" (mLV 0) "place")))]))))
  (mRet (mSh (mAndV (mBin dIn (mBin dIx (mVar 1) (mC (PyData.int 0))) (mTup [(mSh (mC (PyData.str "take"))), (mSh (mC (PyData.str "ask"))), (mSh (mC (PyData.str "choose"))), (mSh (mC (PyData.str "risk")))])) (mBin dEq (mD (mFld "Run" (mLV 0) "used")) (mCallB bLen [(mSh (mD (mFld "Run" (mLV 0) "given")))]))))))
def f_Run_wants : Fn := fnF 1 2 m_Run_wants
def m_run : M Fl := (mSeq (mSet 3 (mLo (mMake "Run" f_Run___init__ [(mSh (mVar 0)), (mSh (mVar 1))])))
  (mSeq (mWhile (mAndT (mTest (mBin dIs (mD (mFld "Run" (mLV 3) "over_by")) (mC PyData.none))) (mAndT (mTest (mBin dLt (mD (mFld "Run" (mLV 3) "steps")) (mVar 2))) (mNotT (mTest (mD (mMeth "Run" "wants" f_Run_wants (mLV 3) [])))))) (mExpr (mSh (mD (mMeth "Run" "step" f_Run_step (mLV 3) [])))) 1000000)
  (mSeq (mSet 4 (mSh (mTup [(mSh (mD (mFld "Run" (mLV 3) "steps"))), (mSh (mTupOf (mLo (mL (mFld "Run" (mLV 3) "numbers"))))), (mSh (mTupOf (mLo (mL (mFld "Run" (mLV 3) "leavings")))))])))
  (mSeq (mIfS (mTest (mBin dIsNot (mD (mFld "Run" (mLV 3) "over_by")) (mC PyData.none))) (mRet (mSh (mBin dAdd (mD (mFld "Run" (mLV 3) "over_by")) (mVar 4)))) mNx)
  (mRet (mSh (mBin dAdd (mBin dAdd (mTup [(mSh (mC (PyData.str "on"))), (mSh (mD (mFld "Run" (mLV 3) "place")))]) (mVar 4)) (mTup [(mSh (mD (mMeth "Frame" "shown" f_Frame_shown (mL (mIxC (mLo (mL (mFld "Run" (mLV 3) "frames"))) (mNeg (mC (PyData.int 1))))) [])))]))))))))
def f_run : Fn := fnF 3 5 m_run
def m__law_deck : M Fl := (mSeq (mSet 1 (mSh (mCallB bList [(mSh (mSl (mVar 0) mNoPart (mPart (mC (PyData.int 63)))))])))
  (mRet (mLo (mNew (mCatO (mSh (mLst [(mSh (mC (PyData.int 0))), (mSh (mBin dAdd (mC (PyData.int 7)) (mBin dMod (mCallB bSum [(mSh (mFr (mComp (mEnum (mVar 1)) [2, 3] (mgTup 2 (mgCons (mgName 2) (mgCons (mgName 3) mgNil))) mYes (mBin dMul (mBin dMod (mVar 3) (mC (PyData.int 1000003))) (mBin dAdd (mVar 2) (mC (PyData.int 1)))))))]) (mC (PyData.int 2147483629)))))])) (mSh (mRev (mVar 1))))))))
def f__law_deck : Fn := fnF 1 4 m__law_deck
def m__law_draw : M Fl := (mSeq (mSetIx (mLV 0) (mC (PyData.int 0)) (mSh (mBin dAdd (mD (mIxC (mLo (mLV 0)) (mC (PyData.int 0)))) (mC (PyData.int 1)))))
  (mSeq (mSet 2 (mSh (mBin dAdd (mD (mIxC (mLo (mLV 0)) (mC (PyData.int 1)))) (mBin dMul (mC (PyData.int 104729)) (mD (mIxC (mLo (mLV 0)) (mC (PyData.int 0))))))))
  (mSeq (mIfS (mTest (mBin dGt (mCallC bLen [(mLo (mLV 0))]) (mC (PyData.int 2)))) (mSeq (mSet 2 (mSh (mD (mPop0 (mLV 0)))))
  (mIfS (mTest (mBin dGe (mVar 2) (mBin dPow (mC (PyData.int 10)) (mC (PyData.int 18))))) (mSeq (mApp (mLV 0) (mSh (mBin dDiv (mVar 2) (mVar 1))))
  (mRet (mSh (mBin dMod (mVar 2) (mVar 1))))) mNx)) mNx)
  (mSeq (mSet 3 (mSh (mBin dMod (mBin dMul (mBin dAdd (mBin dMod (mVar 2) (mC (PyData.int 2147483629))) (mBin dMul (mC (PyData.int 7919)) (mD (mIxC (mLo (mLV 0)) (mC (PyData.int 0)))))) (mC (PyData.int 48271))) (mC (PyData.int 2147483647)))))
  (mSeq (mSet 3 (mSh (mBin dMod (mBin dAdd (mBin dAdd (mBin dMul (mVar 3) (mVar 3)) (mBin dMul (mC (PyData.int 69621)) (mVar 3))) (mD (mIxC (mLo (mLV 0)) (mC (PyData.int 0))))) (mC (PyData.int 2147483587)))))
  (mRet (mSh (mBin dMod (mBin dDiv (mVar 3) (mC (PyData.int 64))) (mVar 1)))))))))
def f__law_draw : Fn := fnF 2 4 m__law_draw
def m__law_some : M Fl := (mRet (mSh (mBin dIx (mLst [(mSh (mD (mCall f__law_draw [(mLo (mLV 0)), (mSh (mBin dAdd (mVar 1) (mC (PyData.int 1))))]))), (mSh (mVar 2))]) (mCallB bInt [(mSh (mBin dEq (mD (mCall f__law_draw [(mLo (mLV 0)), (mSh (mC (PyData.int 8)))])) (mC (PyData.int 1))))]))))
def f__law_some : Fn := fnF 3 3 m__law_some
def m__law_names : M Fl := (mSeq (mSet 2 (mSh (mC (PyData.str "abcdefghijklmnopqrstuvwxyz"))))
  (mSeq (mSet 3 (mLo (mNew (mComp (mRng1 (mBin dAdd (mC (PyData.int 1)) (mD (mCall f__law_draw [(mLo (mLV 0)), (mSh (mC (PyData.int 5)))])))) [7] (mgName 7) mYes (mBin dIx (mVar 2) (mD (mCall f__law_draw [(mLo (mLV 0)), (mSh (mC (PyData.int 26)))])))))))
  (mSeq (mSet 4 (mSh (mD (mCall f__law_draw [(mLo (mLV 0)), (mSh (mCallC bLen [(mLo (mLV 3))]))]))))
  (mSeq (mSet 5 (mSh (mD (mCall f__law_draw [(mLo (mLV 0)), (mSh (mC (PyData.int 26)))]))))
  (mSeq (mSet 6 (mLo (mNew (mLsO []))))
  (mSeq (mFor (mRng1 (mVar 1)) (mgName 7) (mSeq (mSetIx (mLV 3) (mVar 4) (mSh (mBin dIx (mVar 2) (mBin dMod (mBin dAdd (mVar 5) (mVar 7)) (mC (PyData.int 26))))))
  (mApp (mLV 6) (mSh (mBin dAdd (mBin dAdd (mM1C sJoin (mC (PyData.str "")) (mLo (mLV 3))) (mC (PyData.str "q"))) (mBin dMul (mC (PyData.str "z")) (mBin dMod (mVar 7) (mC (PyData.int 2)))))))))
  (mSeq (mIfS (mTest (mBin dEq (mD (mCall f__law_draw [(mLo (mLV 0)), (mSh (mC (PyData.int 4)))])) (mC (PyData.int 1)))) (mSetIx (mLV 6) (mD (mCall f__law_draw [(mLo (mLV 0)), (mSh (mVar 1))])) (mSh (mBin dIx (mLst [(mSh (mC (PyData.str "same"))), (mSh (mC (PyData.str "way"))), (mSh (mC (PyData.str "left"))), (mSh (mC (PyData.str "far"))), (mSh (mC (PyData.str "twice"))), (mSh (mC (PyData.str "unread"))), (mSh (mC (PyData.str "ended"))), (mSh (mC (PyData.str "on")))]) (mBin dMod (mVar 5) (mC (PyData.int 8)))))) mNx)
  (mRet (mSh (mSeal (mLV 6)))))))))))
def f__law_names : Fn := fnF 2 8 m__law_names
def m__law_boxes : M Fl := (mSeq (mSet 2 (mLo (mNew (mLsO [(mSh (mBin dIx (mVar 1) (mC (PyData.int 0)))), (mSh (mBin dIx (mVar 1) (mC (PyData.int 1)))), (mSh (mBin dIx (mVar 1) (mC (PyData.int 2)))), (mSh (mBin dAdd (mBin dAdd (mBin dIx (mVar 1) (mC (PyData.int 0))) (mC (PyData.str "."))) (mBin dIx (mVar 1) (mC (PyData.int 1))))), (mSh (mBin dAdd (mBin dAdd (mBin dIx (mVar 1) (mC (PyData.int 0))) (mC (PyData.str "."))) (mBin dIx (mVar 1) (mC (PyData.int 2))))), (mSh (mBin dIx (mVar 1) (mC (PyData.int 3))))]))))
  (mSeq (mSet 2 (mLo (mNew (mCatO (mLo (mLV 2)) (mSh (mLst [(mSh (mBin dAdd (mBin dAdd (mBin dIx (mVar 1) (mC (PyData.int 3))) (mC (PyData.str "."))) (mBin dIx (mVar 1) (mC (PyData.int 0))))), (mSh (mBin dIx (mVar 1) (mC (PyData.int 4)))), (mSh (mBin dIx (mVar 1) (mC (PyData.int 5))))]))))))
  (mSeq (mIfS (mTest (mBin dEq (mD (mCall f__law_draw [(mLo (mLV 0)), (mSh (mC (PyData.int 4)))])) (mC (PyData.int 1)))) (mSetIx (mLV 2) (mC (PyData.int 5)) (mSh (mBin dAdd (mBin dAdd (mBin dIx (mVar 1) (mC (PyData.int 0))) (mC (PyData.str "k."))) (mBin dIx (mVar 1) (mC (PyData.int 0)))))) mNx)
  (mRet (mSh (mSl (mSlC (mLo (mLV 2)) (mPart (mD (mCall f__law_draw [(mLo (mLV 0)), (mSh (mC (PyData.int 4)))]))) mNoPart) mNoPart (mPart (mBin dAdd (mC (PyData.int 3)) (mD (mCall f__law_some [(mLo (mLV 0)), (mSh (mC (PyData.int 2))), (mSh (mC (PyData.int 5)))]))))))))))
def f__law_boxes : Fn := fnF 2 3 m__law_boxes
def m__law_one_of : M Fl := (mRet (mSh (mBin dIx (mVar 1) (mD (mCall f__law_draw [(mLo (mLV 0)), (mSh (mCallB bLen [(mSh (mVar 1))]))])))))
def f__law_one_of : Fn := fnF 2 2 m__law_one_of
def m__law_picked : M Fl := (mSeq (mSet 3 (mLo (mNew (mListOf (mSh (mVar 1))))))
  (mSeq (mSet 4 (mLo (mNew (mLsO []))))
  (mSeq (mFor (mRng1 (mCallB (bII fun i j => if j < i then j else i) [(mSh (mVar 2)), (mSh (mCallC bLen [(mLo (mLV 3))]))])) (mgName 5) (mApp (mLV 4) (mSh (mD (mPopAt (mLV 3) (mD (mCall f__law_draw [(mLo (mLV 0)), (mSh (mCallC bLen [(mLo (mLV 3))]))])))))))
  (mRet (mSh (mTupOf (mLo (mLV 4))))))))
def f__law_picked : Fn := fnF 3 6 m__law_picked
def m__law_plain : M Fl := (mSeq (mSet 2 (mSh (mD (mCall f__law_draw [(mLo (mLV 0)), (mSh (mC (PyData.int 11)))]))))
  (mSeq (mAsg (mgLst 3 (mgCons (mgName 3) (mgCons (mgName 4) (mgCons (mgName 5) mgNil)))) (mSh (mFr (mComp (mRng1 (mC (PyData.int 3))) [6] (mgName 6) mYes (mD (mCall f__law_one_of [(mLo (mLV 0)), (mSh (mD (mDGet (mLV 1) (mC (PyData.str "boxes")))))]))))))
  (mSeq (mIfS (mTest (mBin dLt (mVar 2) (mC (PyData.int 2)))) (mRet (mSh (mTup [(mSh (mC (PyData.str "take"))), (mSh (mVar 3)), (mSh (mD (mCall f__law_one_of [(mLo (mLV 0)), (mSh (mD (mDGet (mLV 1) (mC (PyData.str "worths")))))])))]))) mNx)
  (mSeq (mIfS (mTest (mBin dEq (mVar 2) (mC (PyData.int 2)))) (mRet (mSh (mTup [(mSh (mC (PyData.str "ask"))), (mSh (mVar 3))]))) mNx)
  (mSeq (mIfS (mTest (mBin dEq (mVar 2) (mC (PyData.int 3)))) (mRet (mSh (mTup [(mSh (mC (PyData.str "number"))), (mSh (mVar 3)), (mSh (mBin dIx (mLst [(mSh (mC (PyData.int 0))), (mSh (mC (PyData.int 1))), (mSh (mC (PyData.int 9999))), (mSh (mD (mCall f__law_draw [(mLo (mLV 0)), (mSh (mC (PyData.int 10000)))])))]) (mD (mCall f__law_draw [(mLo (mLV 0)), (mSh (mC (PyData.int 4)))]))))]))) mNx)
  (mSeq (mIfS (mTest (mBin dLt (mVar 2) (mC (PyData.int 6)))) (mRet (mSh (mTup [(mSh (mC (PyData.str "copy"))), (mSh (mVar 3)), (mSh (mVar 4))]))) mNx)
  (mSeq (mIfS (mTest (mBin dLt (mVar 2) (mC (PyData.int 8)))) (mRet (mSh (mBin dIx (mLst [(mSh (mTup [(mSh (mC (PyData.str "mix"))), (mSh (mVar 3)), (mSh (mVar 4)), (mSh (mVar 5))])), (mSh (mTup [(mSh (mC (PyData.str "open"))), (mSh (mVar 3)), (mSh (mVar 4))]))]) (mBin dSub (mVar 2) (mC (PyData.int 6)))))) mNx)
  (mSeq (mIfS (mTest (mBin dEq (mVar 2) (mC (PyData.int 8)))) (mRet (mSh (mTup [(mSh (mC (PyData.str "tell"))), (mSh (mVar 3))]))) mNx)
  (mSeq (mIfS (mTest (mBin dEq (mVar 2) (mC (PyData.int 9)))) (mRet (mSh (mTup [(mSh (mC (PyData.str "drop"))), (mSh (mD (mCall f__law_picked [(mLo (mLV 0)), (mSh (mD (mDGet (mLV 1) (mC (PyData.str "boxes"))))), (mSh (mBin dAdd (mC (PyData.int 1)) (mD (mCall f__law_some [(mLo (mLV 0)), (mSh (mC (PyData.int 1))), (mSh (mC (PyData.int 5)))]))))])))]))) mNx)
  (mRet (mSh (mBin dIx (mLst [(mSh (mTup [(mSh (mC (PyData.str "wipe"))), (mSh (mVar 3))])), (mSh (mTup [(mSh (mC (PyData.str "clear"))), (mSh (mBin dIx (mM1 sSplit (mVar 3) (mC (PyData.str "."))) (mC (PyData.int 0))))])), (mSh (mTup [(mSh (mC (PyData.str "clear"))), (mSh (mBin dIx (mM1 sSplit (mBin dIx (mD (mDGet (mLV 1) (mC (PyData.str "boxes")))) (mC (PyData.int 0))) (mC (PyData.str "."))) (mC (PyData.int 0))))]))]) (mD (mCall f__law_draw [(mLo (mLV 0)), (mSh (mC (PyData.int 3)))]))))))))))))))
def f__law_plain : Fn := fnF 2 7 m__law_plain
def m__law_formed (r : Nat → Fn) : M Fl := (mSeq (mIfS (mTest (mIsi "tuple" (mVar 0))) (mRet (mSh (mBin dEq (mFr (mComp (mIter (mVar 0)) [1] (mgName 1) (mNotT (mTest (mD (mCall (r 0) [(mSh (mVar 1))])))) (mVar 1))) (mLst [])))) mNx)
  (mRet (mSh (mOrV (mIsi "str" (mVar 0)) (mAndV (mIsi "int" (mVar 0)) (mNotV (mIsi "bool" (mVar 0))))))))
def f_G39 : Nat → Nat → Fn
  | 0, _ => fun _ _ => .bad
  | k + 1, _ => fnF 1 2 (m__law_formed (f_G39 k))
def f__law_formed : Fn := f_G39 14 0
def m__law_done : M Fl := (mSeq (mSet 3 (mSh (mFr (mComp (mIter (mSl (mVar 1) (mPart (mC (PyData.int 2))) mNoPart)) [7] (mgName 7) (mTest (mIsi "str" (mVar 7))) (mD (mDGet2 (mLV 0) (mVar 7) (mSh (mTup [(mSh (mC (PyData.int 0))), (mSh (mTup []))]))))))))
  (mSeq (mIfS (mTest (mBin dEq (mBin dIx (mVar 1) (mC (PyData.int 0))) (mC (PyData.str "tell")))) (mRet (mSh (mTup [(mSh (mLst [(mSh (mBin dIx (mD (mDGet2 (mLV 0) (mBin dIx (mVar 1) (mC (PyData.int 1))) (mSh (mTup [(mSh (mC (PyData.int 0))), (mSh (mTup []))])))) (mC (PyData.int 0))))])), (mSh (mLst []))]))) mNx)
  (mSeq (mIfS (mTest (mBin dIn (mBin dIx (mVar 1) (mC (PyData.int 0))) (mTup [(mSh (mC (PyData.str "wipe"))), (mSh (mC (PyData.str "clear"))), (mSh (mC (PyData.str "drop")))]))) (mSeq (mSet 4 (mSh (mD (mDGet2 (mDisp [((mC (PyData.str "wipe")), (mSh (mLst [(mSh (mBin dIx (mVar 1) (mC (PyData.int 1))))]))), ((mC (PyData.str "drop")), (mSh (mCallB bListS [(mSh (mBin dIx (mVar 1) (mC (PyData.int 1))))])))]) (mBin dIx (mVar 1) (mC (PyData.int 0))) (mSh (mLst []))))))
  (mSeq (mIfS (mTest (mBin dEq (mBin dIx (mVar 1) (mC (PyData.int 0))) (mC (PyData.str "clear")))) (mSet 4 (mSh (mFr (mComp (mIter (mFr (mListD (mLV 0)))) [7] (mgName 7) (mTest (mBin dEq (mSl (mVar 7) mNoPart (mPart (mBin dAdd (mCallB bLen [(mSh (mBin dIx (mVar 1) (mC (PyData.int 1))))]) (mC (PyData.int 1))))) (mBin dAdd (mBin dIx (mVar 1) (mC (PyData.int 1))) (mC (PyData.str "."))))) (mVar 7))))) mNx)
  (mSeq (mSet 5 (mSh (mFr (mComp (mIter (mVar 4)) [7] (mgName 7) mYes (mTup [(mSh (mVar 7)), (mSh (mBin dIx (mD (mDPop2 (mLV 0) (mVar 7) (mSh (mTup [(mSh (mC (PyData.int 0))), (mSh (mTup []))])))) (mC (PyData.int 1))))])))))
  (mRet (mSh (mTup [(mSh (mLst [])), (mSh (mSortL (mFr (mComp (mIter (mVar 5)) [8] (mgName 8) (mAndT (mTest (mBin dEq (mBin dIx (mVar 1) (mC (PyData.int 0))) (mC (PyData.str "drop")))) (mTest (mBin dNe (mBin dIx (mVar 8) (mC (PyData.int 1))) (mTup [])))) (mVar 8)))))])))))) mNx)
  (mSeq (mIfS (mTest (mBin dEq (mBin dIx (mVar 1) (mC (PyData.int 0))) (mC (PyData.str "mix")))) (mSeq (mSet 6 (mSh (mCallB bTuple [(mSh (mTexts (fun l => .list ((sortT l).map PyData.str)) (mSh (mBin dAdd (mBin dIx (mBin dIx (mVar 3) (mC (PyData.int 0))) (mC (PyData.int 1))) (mBin dIx (mBin dIx (mVar 3) (mC (PyData.int 1))) (mC (PyData.int 1)))))))])))
  (mDPut (mLV 0) (mBin dIx (mVar 1) (mC (PyData.int 1))) (mSh (mTup [(mSh (mBin dMod (mBin dAdd (mBin dAdd (mBin dIx (mBin dIx (mVar 3) (mC (PyData.int 0))) (mC (PyData.int 0))) (mBin dIx (mBin dIx (mVar 3) (mC (PyData.int 1))) (mC (PyData.int 0)))) (mBin dIx (mBin dIx (mVar 3) (mC (PyData.int 1))) (mC (PyData.int 0)))) (mC (PyData.int 10007)))), (mSh (mVar 6))])))) (mIfS (mTest (mBin dEq (mBin dIx (mVar 1) (mC (PyData.int 0))) (mC (PyData.str "copy")))) (mDPut (mLV 0) (mBin dIx (mVar 1) (mC (PyData.int 1))) (mSh (mBin dIx (mVar 3) (mC (PyData.int 0))))) (mIfS (mTest (mBin dEq (mBin dIx (mVar 1) (mC (PyData.int 0))) (mC (PyData.str "open")))) (mDPut (mLV 0) (mBin dIx (mVar 1) (mC (PyData.int 1))) (mSh (mTup [(mSh (mBin dMod (mBin dIx (mBin dIx (mVar 3) (mC (PyData.int 0))) (mC (PyData.int 0))) (mC (PyData.int 2)))), (mSh (mTup []))]))) (mIfS (mTest (mBin dEq (mBin dIx (mVar 1) (mC (PyData.int 0))) (mC (PyData.str "take")))) (mDPut (mLV 0) (mBin dIx (mVar 1) (mC (PyData.int 1))) (mSh (mTup [(mSh (mVar 2)), (mSh (mTup [(mSh (mBin dIx (mVar 1) (mC (PyData.int 2))))]))]))) (mDPut (mLV 0) (mBin dIx (mVar 1) (mC (PyData.int 1))) (mSh (mTup [(mSh (mVar 2)), (mSh (mTup []))])))))))
  (mRet (mSh (mTup [(mSh (mLst [])), (mSh (mLst []))])))))))
def f__law_done : Fn := fnF 3 9 m__law_done
def m__law_due : M Fl := (mSeq (mSet 3 (mLo mDNew))
  (mSeq (mSet 4 (mLo (mNew (mLsO []))))
  (mSeq (mSet 5 (mLo (mNew (mLsO []))))
  (mSeq (mFor (mRng1 (mCallB (bII fun i j => if j < i then j else i) [(mSh (mVar 2)), (mSh (mCallB bLen [(mSh (mVar 0))]))])) (mgName 6) (mSeq (mAsg (mgTup 2 (mgCons (mgName 8) (mgCons (mgName 9) mgNil))) (mSh (mD (mCall f__law_done [(mLo (mLV 3)), (mSh (mBin dIx (mVar 0) (mVar 6))), (mSh (mD (mIxC (mCl 1) (mVar 6))))]))))
  (mSeq (mExt (mLV 4) (mSh (mVar 8)))
  (mExt (mLV 5) (mSh (mFr (mComp (mIter (mVar 9)) [11] (mgName 11) mYes (mBin dAdd (mTup [(mSh (mTup [(mSh (mC (PyData.str ""))), (mSh (mVar 6))]))]) (mVar 11)))))))))
  (mSeq (mSet 7 (mSh (mSortL (mFr (mLockK (mLV 3) (mComp (mKeysK (mLV 3)) [10] (mgName 10) (mTest (mBin dNe (mD (mDGetF (mLV 3) (mVar 10))) (mTup [(mSh (mC (PyData.int 0))), (mSh (mTup []))]))) (mBin dAdd (mTup [(mSh (mVar 10))]) (mD (mDGetF (mLV 3) (mVar 10))))))))))
  (mSeq (mIfS (mTest (mBin dLt (mVar 2) (mCallB bLen [(mSh (mVar 0))]))) (mRet (mSh (mTup [(mSh (mC (PyData.str "on"))), (mSh (mTup [(mSh (mC (PyData.str ""))), (mSh (mVar 2))])), (mSh (mVar 2)), (mSh (mTupOf (mLo (mLV 4)))), (mSh (mTupOf (mLo (mLV 5)))), (mSh (mCallB bTuple [(mSh (mVar 7))]))]))) mNx)
  (mSeq (mExt (mLV 5) (mSh (mFr (mComp (mIter (mVar 7)) [10, 12, 13] (mgTup 3 (mgCons (mgName 10) (mgCons (mgName 12) (mgCons (mgName 13) mgNil)))) (mTest (mBin dNe (mVar 13) (mTup []))) (mTup [(mSh (mTup [(mSh (mC (PyData.str ""))), (mSh (mCallB bLen [(mSh (mVar 0))]))])), (mSh (mVar 10)), (mSh (mVar 13))])))))
  (mRet (mSh (mTup [(mSh (mC (PyData.str "ended"))), (mSh (mCallB bLen [(mSh (mVar 0))])), (mSh (mTupOf (mLo (mLV 4)))), (mSh (mTupOf (mLo (mLV 5))))]))))))))))
def f__law_due : Fn := fnF 3 14 m__law_due
def m_law : M Fl := (mSeq (mSet 1 (mLo (mL (mCall f__law_deck [(mSh (mVar 0))]))))
  (mSeq (mSet 2 (mSh (mD (mCall f__law_names [(mLo (mLV 1)), (mSh (mC (PyData.int 17)))]))))
  (mSeq (mSet 3 (mLo (mDisp [((mC (PyData.str "boxes")), (mSh (mD (mCall f__law_boxes [(mLo (mLV 1)), (mSh (mVar 2))])))), ((mC (PyData.str "worths")), (mSh (mBin dAdd (mSl (mVar 2) (mPart (mC (PyData.int 6))) (mPart (mC (PyData.int 9)))) (mSl (mVar 2) mNoPart (mPart (mC (PyData.int 3)))))))])))
  (mSeq (mSet 4 (mSh (mCallB bTuple [(mSh (mFr (mComp (mRng1 (mBin dIx (mLst [(mSh (mD (mCall f__law_draw [(mLo (mLV 1)), (mSh (mC (PyData.int 10)))]))), (mSh (mD (mCall f__law_draw [(mLo (mLV 1)), (mSh (mC (PyData.int 41)))])))]) (mD (mCall f__law_draw [(mLo (mLV 1)), (mSh (mC (PyData.int 2)))])))) [13] (mgName 13) mYes (mD (mCall f__law_plain [(mLo (mLV 1)), (mLo (mLV 3))])))))])))
  (mSeq (mIfS (mTest (mBin dEq (mD (mCall f__law_draw [(mLo (mLV 1)), (mSh (mC (PyData.int 4)))])) (mC (PyData.int 1)))) (mSeq (mAsg (mgLst 2 (mgCons (mgName 11) (mgCons (mgName 12) mgNil))) (mSh (mSl (mD (mDGet (mLV 3) (mC (PyData.str "boxes")))) mNoPart (mPart (mC (PyData.int 2))))))
  (mFor (mIter (mD (mDGet (mLV 3) (mC (PyData.str "worths"))))) (mgName 9) (mSet 4 (mSh (mBin dAdd (mTup [(mSh (mTup [(mSh (mC (PyData.str "take"))), (mSh (mVar 12)), (mSh (mVar 9))])), (mSh (mTup [(mSh (mC (PyData.str "mix"))), (mSh (mVar 11)), (mSh (mVar 11)), (mSh (mVar 12))]))]) (mVar 4)))))) mNx)
  (mSeq (mSet 5 (mLo (mNew (mLsO []))))
  (mSeq (mSet 6 (mLo (mNew (mLsO []))))
  (mSeq (mFor (mIter (mVar 4)) (mgName 7) (mSeq (mApp (mLV 5) (mSh (mBin dIx (mLst [(mSh (mC (PyData.int 0))), (mSh (mC (PyData.int 1))), (mSh (mC (PyData.int 9999))), (mSh (mD (mCall f__law_draw [(mLo (mLV 1)), (mSh (mC (PyData.int 10000)))])))]) (mD (mCall f__law_draw [(mLo (mLV 1)), (mSh (mC (PyData.int 4)))])))))
  (mSeq (mIfS (mTest (mBin dIn (mBin dIx (mVar 7) (mC (PyData.int 0))) (mTup [(mSh (mC (PyData.str "take"))), (mSh (mC (PyData.str "ask")))]))) (mApp (mLV 6) (mSh (mD (mIxC (mLo (mLV 5)) (mNeg (mC (PyData.int 1))))))) mNx)
  (mIfS (mTest (mBin dEq (mBin dIx (mVar 7) (mC (PyData.int 0))) (mC (PyData.str "number")))) (mSetIx (mLV 5) (mNeg (mC (PyData.int 1))) (mSh (mBin dIx (mVar 7) (mC (PyData.int 2))))) mNx))))
  (mSeq (mFor (mIter (mLst [(mSh (mCallB bLen [(mSh (mVar 4))])), (mSh (mBin dAdd (mCallB bLen [(mSh (mVar 4))]) (mC (PyData.int 1)))), (mSh (mC (PyData.int 0))), (mSh (mD (mCall f__law_draw [(mLo (mLV 1)), (mSh (mBin dAdd (mCallB bLen [(mSh (mVar 4))]) (mC (PyData.int 1))))]))), (mSh (mD (mCall f__law_draw [(mLo (mLV 1)), (mSh (mBin dAdd (mCallB bLen [(mSh (mVar 4))]) (mC (PyData.int 1))))]))), (mSh (mCallB bLen [(mSh (mVar 4))]))])) (mgName 8) (mSeq (mSet 10 (mSh (mD (mCall f_run [(mSh (mTup [(mSh (mTup [])), (mSh (mVar 4))])), (mSh (mTupOf (mLo (mLV 6)))), (mSh (mVar 8))]))))
  (mIfS (mOrT (mNotT (mTest (mD (mCall f__law_formed [(mSh (mVar 10))])))) (mTest (mBin dNe (mVar 10) (mD (mCall f__law_due [(mSh (mVar 4)), (mLo (mLV 5)), (mSh (mVar 8))]))))) (mRet (mSh (mC (PyData.bool false)))) mNx)))
  (mRet (mSh (mC (PyData.bool true)))))))))))))
def f_law : Fn := fnF 1 14 m_law
/-- the law is True at every script: said upon data -/
def Good : Prop := ∀ ns : List Int, ns.length ≤ 63 → ∃ s, f_law [.sh (.list (ns.map PyData.int))] [] = .ok (.sh (.bool true)) s
end Ds.K10
namespace Ds.K10
open PySem PySem.Spec PyProof.Rows L2 Dn TL
def srt (L : List Str) : List Str := sortT (metT L)
theorem srt_mem {L : List Str} {x : Str} : x ∈ srt L ↔ x ∈ L := by
  unfold srt sortT
  rw [List.mem_mergeSort, mem_metT]
theorem srt_len {L : List Str} : (srt L).length ≤ L.length := by
  unfold srt sortT
  rw [List.length_mergeSort]
  exact metT_len L
theorem srt_same {L M : List Str} (h : ∀ x, x ∈ L ↔ x ∈ M) : srt L = srt M := sortT_same h
theorem srt_nil : srt [] = [] := List.length_eq_zero_iff.mp (Nat.le_zero.mp (srt_len (L := [])))
theorem srt_one {w : Str} : srt [w] = [w] := by
  have h1 : (srt [w]).length ≤ 1 := srt_len
  have h2 : w ∈ srt [w] := srt_mem.mpr (by simp)
  match srt [w], h1, h2 with
  | [x], _, h2 => simp at h2; rw [h2]
  | _ :: _ :: _, h1, _ => simp at h1
theorem srt_nd {L : List Str} : (srt L).Nodup := (List.mergeSort_perm _ _).nodup_iff.mpr (metT_nodup L)
theorem sortT_nd {xs : List Str} (h : xs.Nodup) : sortT xs = srt xs := by
  have p : (metT xs).Perm xs := (List.perm_ext_iff_of_nodup (metT_nodup xs) h).mpr fun z => mem_metT
  exact sort_one (List.pairwise_mergeSort leS_trans leS_total _) (List.pairwise_mergeSort leS_trans leS_total _) ((List.mergeSort_perm _ _).trans (p.symm.trans (List.mergeSort_perm _ _).symm))
/-- some of those, rising, each once -/
def Wl (Ws ws : List Str) : Prop := ∃ p : Str → Bool, ws = srt (Ws.filter p)
theorem filter_none (L : List Str) : L.filter (fun _ => false) = [] := by simp
theorem Wl.nil {Ws : List Str} : Wl Ws [] := ⟨fun _ => false, by rw [filter_none, srt_nil]⟩
theorem Wl.one {Ws : List Str} {w : Str} (h : w ∈ Ws) : Wl Ws [w] := by
  refine ⟨fun x => decide (x = w), ?_⟩
  have e : srt (Ws.filter fun x => decide (x = w)) = srt [w] := srt_same fun x => by
    rw [List.mem_filter, List.mem_singleton]
    refine ⟨fun z => of_decide_eq_true z.2, fun z => ⟨z ▸ h, decide_eq_true z⟩⟩
  rw [e, srt_one]
theorem Wl.len {Ws ws : List Str} (h : Wl Ws ws) : ws.length ≤ Ws.length := by
  obtain ⟨p, rfl⟩ := h
  exact Nat.le_trans srt_len (List.length_filter_le _ _)
theorem Wl.app {Ws ws vs : List Str} (h : Wl Ws ws) (k : Wl Ws vs) : Wl Ws (srt (ws ++ vs)) := by
  obtain ⟨p, rfl⟩ := h
  obtain ⟨q, rfl⟩ := k
  refine ⟨fun x => p x || q x, srt_same fun x => ?_⟩
  rw [List.mem_append, srt_mem, srt_mem, List.mem_filter, List.mem_filter, List.mem_filter, Bool.or_eq_true]
  constructor
  · rintro (⟨a, b⟩ | ⟨a, b⟩)
    · exact ⟨a, .inl b⟩
    · exact ⟨a, .inr b⟩
  · rintro ⟨a, b | b⟩
    · exact .inl ⟨a, b⟩
    · exact .inr ⟨a, b⟩
theorem Wl.mem {Ws ws : List Str} (h : Wl Ws ws) : ∀ x ∈ ws, x ∈ Ws := fun x hx => by
  obtain ⟨p, rfl⟩ := h
  exact (List.mem_filter.mp (srt_mem.mp hx)).1
abbrev Vl := Int × List Str
abbrev Th := List (Str × Vl)
def zer : Vl := (0, [])
def valD (v : Vl) : D := .tuple [.int v.1, .tuple (v.2.map PyData.str)]
def kvE (A : Th) : List (Key × Cl) := A.map fun p => (.inr p.1, .sh (valD p.2))
def lookA (A : Th) (x : Str) : Option Vl := (A.find? fun p => decide (p.1 = x)).map (·.2)
def look (A : Th) (x : Str) : Vl := (lookA A x).getD zer
def putA (A : Th) (x : Str) (v : Vl) : Th := if (A.any fun p => decide (p.1 = x)) = true then A.map (fun p => if p.1 = x then (p.1, v) else p) else A ++ [(x, v)]
def dropA (A : Th) (x : Str) : Th := A.filter fun p => decide (p.1 ≠ x)
def keysA (A : Th) : List Str := A.map (·.1)
theorem val_kvE (A : Th) (x : Str) : valC (kvE A) (.inr x) = (lookA A x).map fun v => .sh (valD v) := by
  induction A with
  | nil => rfl
  | cons p A ih =>
    by_cases h : p.1 = x
    · simp [kvE, valC, lookA, h]
    · have e1 : valC (kvE (p :: A)) (.inr x) = valC (kvE A) (.inr x) := by simp [kvE, valC, List.find?_cons, h]
      have e2 : lookA (p :: A) x = lookA A x := by simp [lookA, List.find?_cons, h]
      rw [e1, e2, ih]
theorem look_kvE (A : Th) (x : Str) : (valC (kvE A) (.inr x)).getD (.sh (valD zer)) = .sh (valD (look A x)) := by
  rw [val_kvE]
  unfold look
  cases lookA A x <;> rfl
theorem put_kvE (A : Th) (x : Str) (v : Vl) : putC (kvE A) (.inr x) (.sh (valD v)) = kvE (putA A x v) := by
  have e1 : ((kvE A).any fun kv => decide (kv.1 = .inr x)) = A.any fun p => decide (p.1 = x) := by
    unfold kvE
    rw [List.any_map]
    congr 1
    funext p
    exact decide_eq_decide.mpr ⟨fun h => Sum.inr.inj h, fun h => congrArg Sum.inr h⟩
  unfold putC putA
  rw [e1]
  split
  · unfold kvE
    rw [List.map_map, List.map_map]
    refine List.map_congr_left fun p _ => ?_
    show (if (Sum.inr p.1 : Key) = .inr x then ((Sum.inr p.1 : Key), Cl.sh (valD v)) else (.inr p.1, Cl.sh (valD p.2))) = (.inr (if p.1 = x then (p.1, v) else p).1, Cl.sh (valD (if p.1 = x then (p.1, v) else p).2))
    by_cases h : p.1 = x
    · rw [if_pos (congrArg Sum.inr h), if_pos h]
    · rw [if_neg (fun z => h (Sum.inr.inj z)), if_neg h]
  · unfold kvE
    rw [List.map_append]
    rfl
theorem drop_kvE (A : Th) (x : Str) : dropC (kvE A) (.inr x) = kvE (dropA A x) := by
  unfold dropC kvE dropA
  rw [List.filter_map]
  congr 1
  refine List.filter_congr fun p _ => ?_
  show decide ((Sum.inr p.1 : Key) ≠ .inr x) = decide (p.1 ≠ x)
  exact decide_eq_decide.mpr ⟨fun h z => h (congrArg Sum.inr z), fun h z => h (Sum.inr.inj z)⟩
theorem keys_kvE (A : Th) : keysS (kvE A) = some (keysA A) := by
  induction A with
  | nil => rfl
  | cons p A ih =>
    show (keysS (kvE A)).map (p.1 :: ·) = some (p.1 :: keysA A)
    rw [ih]
    rfl
theorem kvE_len {A : Th} : (kvE A).length = A.length := by unfold kvE; rw [List.length_map]
theorem drop_none {A : Th} {x : Str} (h : lookA A x = none) : dropA A x = A := by
  unfold dropA
  refine List.filter_eq_self.mpr fun p hp => decide_eq_true fun z => ?_
  have : A.find? (fun p => decide (p.1 = x)) = none := by simpa [lookA] using h
  exact (List.find?_eq_none.mp this) p hp (decide_eq_true z)
theorem lookA_none {A : Th} {x : Str} : lookA A x = none ↔ x ∉ keysA A := by
  unfold lookA keysA
  rw [Option.map_eq_none_iff, List.find?_eq_none, List.mem_map]
  constructor
  · rintro h ⟨p, hp, e⟩
    exact h p hp (decide_eq_true e)
  · intro h p hp e
    exact h ⟨p, hp, of_decide_eq_true e⟩
theorem lookA_of {A : Th} {x : Str} {v : Vl} (hn : (keysA A).Nodup) (h : (x, v) ∈ A) : lookA A x = some v := by
  induction A with
  | nil => cases h
  | cons p A ih =>
    unfold keysA at hn
    rw [List.map_cons, List.nodup_cons] at hn
    rcases List.mem_cons.mp h with e | h
    · subst e
      simp [lookA]
    · have hne : ¬ p.1 = x := fun z => hn.1 (List.mem_map.mpr ⟨(x, v), h, z.symm⟩)
      have e2 : lookA (p :: A) x = lookA A x := by simp [lookA, List.find?_cons, hne]
      rw [e2]
      exact ih hn.2 h
theorem lookA_mem {A : Th} {x : Str} {v : Vl} (h : lookA A x = some v) : (x, v) ∈ A := by
  obtain ⟨p, h1, rfl⟩ := Option.map_eq_some_iff.mp h
  have h2 := List.mem_of_find?_eq_some h1
  have h3 : p.1 = x := of_decide_eq_true (List.find?_some (p := fun p : Str × Vl => decide (p.1 = x)) h1)
  subst h3
  exact h2
theorem look_put {A : Th} {x y : Str} {v : Vl} : look (putA A x v) y = if y = x then v else look A y := by
  unfold look
  have key : lookA (putA A x v) y = if y = x then some v else lookA A y := by
    unfold putA
    by_cases ha : (A.any fun p => decide (p.1 = x)) = true
    · rw [if_pos ha]
      by_cases h : y = x
      · subst h
        rw [if_pos rfl]
        induction A with
        | nil => cases ha
        | cons p A ih =>
          by_cases hp : p.1 = y
          · simp [lookA, hp]
          · have ha2 : (A.any fun p => decide (p.1 = y)) = true := by simpa [hp] using ha
            have := ih ha2
            rw [List.map_cons, if_neg hp]
            simpa [lookA, List.find?_cons, hp] using this
      · rw [if_neg h]
        clear ha
        induction A with
        | nil => rfl
        | cons p A ih =>
          by_cases hp : p.1 = x
          · have hy : ¬ p.1 = y := fun z => h (z.symm.trans hp)
            rw [List.map_cons, if_pos hp]
            simpa [lookA, List.find?_cons, hy] using ih
          · rw [List.map_cons, if_neg hp]
            by_cases hy : p.1 = y
            · simp [lookA, List.find?_cons, hy]
            · simpa [lookA, List.find?_cons, hy] using ih
    · rw [if_neg ha]
      have hn : A.find? (fun p => decide (p.1 = x)) = none := List.find?_eq_none.mpr fun p hp z => ha (List.any_eq_true.mpr ⟨p, hp, z⟩)
      unfold lookA
      rw [List.find?_append]
      by_cases h : y = x
      · subst h
        rw [hn, if_pos rfl]
        simp
      · rw [if_neg h]
        have : ([(x, v)] : Th).find? (fun p => decide (p.1 = y)) = none := by simp [Ne.symm h]
        rw [this, Option.or_none]
  rw [key]
  split <;> rfl
theorem look_drop {A : Th} {x y : Str} : look (dropA A x) y = if y = x then zer else look A y := by
  unfold look
  have key : lookA (dropA A x) y = if y = x then none else lookA A y := by
    by_cases h : y = x
    · subst h
      rw [if_pos rfl, lookA_none]
      unfold keysA dropA
      rw [List.mem_map]
      rintro ⟨p, hp, e⟩
      exact of_decide_eq_true (List.mem_filter.mp hp).2 e
    · rw [if_neg h]
      unfold lookA dropA
      rw [List.find?_filter]
      congr 2
      funext p
      by_cases hp : p.1 = y
      · simp [hp, h]
      · simp [hp]
  rw [key]
  split <;> rfl
theorem keys_put {A : Th} {x : Str} {v : Vl} (h : (keysA A).Nodup) : (keysA (putA A x v)).Nodup := by
  unfold putA keysA
  split
  · rw [List.map_map]
    have e : ((fun p : Str × Vl => p.1) ∘ fun p => if p.1 = x then (p.1, v) else p) = fun p : Str × Vl => p.1 := by
      funext p
      show (if p.1 = x then (p.1, v) else p).1 = p.1
      split <;> rfl
    rw [e]
    exact h
  · rename_i hn
    rw [List.map_append]
    refine List.nodup_append.mpr ⟨h, by simp, fun y hy z hz => ?_⟩
    simp at hz
    subst hz
    intro e
    subst e
    obtain ⟨p, hp, e⟩ := List.mem_map.mp hy
    exact hn (List.any_eq_true.mpr ⟨p, hp, decide_eq_true e⟩)
theorem keys_filter {A : Th} {q : Str × Vl → Bool} (h : (keysA A).Nodup) : (keysA (A.filter q)).Nodup := (List.filter_sublist.map _).nodup h
theorem put_mem {A : Th} {x : Str} {v : Vl} {p : Str × Vl} (h : p ∈ putA A x v) : p ∈ A ∨ p = (x, v) := by
  unfold putA at h
  split at h
  · obtain ⟨q, hq, e⟩ := List.mem_map.mp h
    by_cases z : q.1 = x
    · rw [if_pos z] at e; subst e; subst z; exact .inr rfl
    · rw [if_neg z] at e; subst e; exact .inl hq
  · rcases List.mem_append.mp h with h | h
    · exact .inl h
    · simp at h; exact .inr h
theorem put_len {A : Th} {x : Str} {v : Vl} : (putA A x v).length ≤ A.length + 1 := by
  unfold putA
  split
  · rw [List.length_map]; omega
  · rw [List.length_append]; exact Nat.le_refl _
theorem drop_len {A : Th} {x : Str} : (dropA A x).length ≤ A.length := List.length_filter_le _ _
/-- as the program puts: nothing is kept of what is nothing -/
def pute (A : Th) (x : Str) (v : Vl) : Th := if v = zer then dropA A x else putA A x v
theorem look_pute {A : Th} {x y : Str} {v : Vl} : look (pute A x v) y = if y = x then v else look A y := by
  unfold pute
  split
  · rename_i h
    rw [look_drop, h]
  · exact look_put
def dropAll (A : Th) (xs : List Str) : Th := xs.foldl dropA A
theorem look_dropAll : ∀ {xs : List Str} {A : Th} {y : Str}, look (dropAll A xs) y = if y ∈ xs then zer else look A y
  | [], A, y => by simp [dropAll]
  | x :: xs, A, y => by
    show look (dropAll (dropA A x) xs) y = _
    rw [look_dropAll, look_drop]
    by_cases h : y ∈ xs
    · simp [h]
    · by_cases hx : y = x
      · simp [hx]
      · simp [h, hx]
theorem dropAll_mem {p : Str × Vl} : ∀ {xs : List Str} {A : Th}, p ∈ dropAll A xs → p ∈ A
  | [], _, h => h
  | x :: xs, A, h => (List.mem_filter.mp (dropAll_mem (xs := xs) (A := dropA A x) h)).1
theorem dropAll_nd : ∀ {xs : List Str} {A : Th}, (keysA A).Nodup → (keysA (dropAll A xs)).Nodup
  | [], _, h => h
  | x :: xs, A, h => dropAll_nd (xs := xs) (keys_filter h)
theorem dropAll_len : ∀ {xs : List Str} {A : Th}, (dropAll A xs).length ≤ A.length
  | [], _ => Nat.le_refl _
  | x :: xs, A => Nat.le_trans (dropAll_len (xs := xs)) drop_len
/-- what stands in it -/
structure ThOk (Ws Bs : List Str) (c : Nat) (A : Th) : Prop where
  nd : (keysA A).Nodup
  len : A.length ≤ c
  ok : ∀ p ∈ A, p.1 ∈ Bs ∧ Wl Ws p.2.2
section
variable {Ws Bs : List Str} {c : Nat} {A : Th}
theorem ThOk.look (h : ThOk Ws Bs c A) (x : Str) : Wl Ws (look A x).2 := by
  unfold Ds.K10.look
  cases q : lookA A x with
  | none => exact .nil
  | some v => exact (h.ok _ (lookA_mem q)).2
theorem ThOk.put (h : ThOk Ws Bs c A) {x : Str} {v : Vl} (hx : x ∈ Bs) (w : Wl Ws v.2) : ThOk Ws Bs (c + 1) (putA A x v) :=
  ⟨keys_put h.nd, Nat.le_trans put_len (Nat.succ_le_succ h.len), fun p hp => (put_mem hp).elim (h.ok p) fun e => e ▸ ⟨hx, w⟩⟩
theorem ThOk.filter (h : ThOk Ws Bs c A) (q : Str × Vl → Bool) : ThOk Ws Bs c (A.filter q) :=
  ⟨keys_filter h.nd, Nat.le_trans (List.length_filter_le _ _) h.len, fun p hp => h.ok p (List.mem_filter.mp hp).1⟩
theorem ThOk.up (h : ThOk Ws Bs c A) {d : Nat} (k : c ≤ d) : ThOk Ws Bs d A := ⟨h.nd, Nat.le_trans h.len k, h.ok⟩
theorem ThOk.pute (h : ThOk Ws Bs c A) {x : Str} {v : Vl} (hx : x ∈ Bs) (w : Wl Ws v.2) : ThOk Ws Bs (c + 1) (pute A x v) := by
  unfold Ds.K10.pute
  split
  · exact (h.filter _).up (Nat.le_succ c)
  · exact h.put hx w
theorem ThOk.dropAll (h : ThOk Ws Bs c A) (xs : List Str) : ThOk Ws Bs c (dropAll A xs) :=
  ⟨dropAll_nd h.nd, Nat.le_trans dropAll_len h.len, fun p hp => h.ok p (dropAll_mem hp)⟩
theorem ThOk.nil : ThOk Ws Bs 0 [] := ⟨List.nodup_nil, Nat.le_refl _, fun _ h => nomatch h⟩
end
inductive Wd where
  | take (x w : Str)
  | ask (x : Str)
  | number (x : Str) (n : Int)
  | copy (x y : Str)
  | mix (x y z : Str)
  | opn (x y : Str)
  | tell (x : Str)
  | wipe (x : Str)
  | clear (n : Str)
  | drop (xs : List Str)
def encW : Wd → D
  | .take x w => .tuple [.str "take", .str x, .str w]
  | .ask x => .tuple [.str "ask", .str x]
  | .number x n => .tuple [.str "number", .str x, .int n]
  | .copy x y => .tuple [.str "copy", .str x, .str y]
  | .mix x y z => .tuple [.str "mix", .str x, .str y, .str z]
  | .opn x y => .tuple [.str "open", .str x, .str y]
  | .tell x => .tuple [.str "tell", .str x]
  | .wipe x => .tuple [.str "wipe", .str x]
  | .clear n => .tuple [.str "clear", .str n]
  | .drop xs => .tuple [.str "drop", .tuple (xs.map PyData.str)]
def wants : Wd → Bool
  | .take _ _ => true
  | .ask _ => true
  | _ => false
def skeys (A : Th) : List Str := srt (keysA A)
def keptD (pl : D) (A : Th) : List D := ((skeys A).filter fun x => !(look A x).2.isEmpty).map fun x => .tuple [pl, .str x, .tuple ((look A x).2.map PyData.str)]
def shownD (A : Th) : D := .tuple ((skeys A).map fun x => .tuple [.str x, .int (look A x).1, .tuple ((look A x).2.map PyData.str)])
def dropped (A : Th) (xs : List Str) : Th := xs.foldl (fun M x => pute M x (look A x)) []
/-- of the record -/
def inRec (x n : Str) : Bool := decide ((tl x).take (n.length + 1) = tl n ++ [46])
def stepP (a : Int) (A : Th) : Wd → Th
  | .take x w => pute A x (a, [w])
  | .ask x => pute A x (a, [])
  | .number x n => pute A x (n, [])
  | .copy x y => pute A x (look A y)
  | .mix x y z => pute A x (((look A y).1 + 2 * (look A z).1) % 10007, srt ((look A y).2 ++ (look A z).2))
  | .opn x y => pute A x ((look A y).1 % 2, [])
  | .tell _ => A
  | .wipe x => dropAll A [x]
  | .clear n => dropAll A ((keysA A).filter fun x => inRec x n)
  | .drop xs => dropAll A xs
def tellP (A : Th) : Wd → List Int
  | .tell x => [(look A x).1]
  | _ => []
def leftP (pl : D) (A : Th) : Wd → List D
  | .drop xs => keptD pl (dropped A xs)
  | _ => []
/-- the words that a law puts in -/
def WdOk (Ws Bs : List Str) : Wd → Prop
  | .take x w => x ∈ Bs ∧ w ∈ Ws
  | .ask x => x ∈ Bs
  | .number x _ => x ∈ Bs
  | .copy x y => x ∈ Bs ∧ y ∈ Bs
  | .mix x y z => x ∈ Bs ∧ y ∈ Bs ∧ z ∈ Bs
  | .opn x y => x ∈ Bs ∧ y ∈ Bs
  | .tell x => x ∈ Bs
  | .wipe x => x ∈ Bs
  | .clear n => Ok 10 n ∧ 46 ∉ tl n
  | .drop xs => (∀ x ∈ xs, x ∈ Bs) ∧ xs.length ≤ 10
theorem ThOk.step {Ws Bs : List Str} {c : Nat} {A : Th} {w : Wd} (h : ThOk Ws Bs c A) (a : Int) (k : WdOk Ws Bs w) : ThOk Ws Bs (c + 1) (stepP a A w) := by
  cases w with
  | take x w => exact h.pute k.1 (.one k.2)
  | ask x => exact h.pute k .nil
  | number x n => exact h.pute k .nil
  | copy x y => exact h.pute k.1 (h.look _)
  | mix x y z => exact h.pute k.1 ((h.look _).app (h.look _))
  | opn x y => exact h.pute k.1 .nil
  | tell x => exact h.up (Nat.le_succ _)
  | wipe x => exact (h.dropAll _).up (Nat.le_succ _)
  | clear n => exact (h.dropAll _).up (Nat.le_succ _)
  | drop xs => exact (h.dropAll _).up (Nat.le_succ _)
end Ds.K10
namespace Ds.K10
open PySem PySem.Spec PyProof.Rows L2 Dn TL
theorem srt_pw {L : List Str} : (srt L).Pairwise fun a b => leS a b = true := List.pairwise_mergeSort leS_trans leS_total _
theorem srt_filter {L : List Str} {p : Str → Bool} : (srt L).filter p = srt (L.filter p) := by
  refine sort_one (srt_pw.filter _) srt_pw ((List.perm_ext_iff_of_nodup (srt_nd.filter _) srt_nd).mpr fun x => ?_)
  rw [List.mem_filter, srt_mem, srt_mem, List.mem_filter]
theorem lt_self (d : List D) : PySem.W.dataLt (.tuple d) (.tuple d) = false := by
  rw [PySem.W.dataLt_tuple]
  exact lex_irrefl _
theorem lt_box {x y : Str} {r t : List D} (h : x ≠ y) : PySem.W.dataLt (.tuple (.str x :: r)) (.tuple (.str y :: t)) = decide (x.cps.toList < y.cps.toList) := by
  rw [PySem.W.dataLt_tuple, PySem.W.dataLt_cons (by simp [PySem.W.alike]), PySem.W.dataLt_str]
  have e : PyData.eqv (.str x) (.str y) = false := by simp [PyData.eqv, h]
  rw [e, if_neg (by decide)]
theorem sort_box {g : Str → List D} {ks : List Str} (hn : ks.Nodup) : sortD (ks.map fun x => .tuple (.str x :: g x)) = (srt ks).map fun x => .tuple (.str x :: g x) := by
  rw [← sortT_nd hn]
  refine (List.map_mergeSort fun a _ b _ => ?_).symm
  show leS a b = !PySem.W.dataLt (.tuple (.str b :: g b)) (.tuple (.str a :: g a))
  by_cases h : a = b
  · subst h
    rw [lt_self]
    have := leS_total a a
    simpa using this
  · rw [lt_box (Ne.symm h), leS_lt]
theorem alike_strs : ∀ (xs ys : List Str), PySem.W.alikeAll (xs.map PyData.str) (ys.map PyData.str) = true
  | [], _ => by simp [PySem.W.alikeAll]
  | _ :: _, [] => by simp [PySem.W.alikeAll]
  | x :: xs, y :: ys => by
    rw [List.map_cons, List.map_cons, PySem.W.alikeAll, alike_strs xs ys]
    simp [PySem.W.alike]
theorem dep_strs : ∀ (xs : List Str), PyData.depthAll (xs.map PyData.str) = 0
  | [] => by simp [PyData.depthAll]
  | x :: xs => by
    rw [List.map_cons, PyData.depthAll, dep_strs xs]
    simp [PyData.depth]
theorem sortB_box {g : Str → List D} {ks : List Str} (hl : ks.length ≤ 1000) (al : ∀ x y, PySem.W.alikeAll (g x) (g y) = true) (dp : ∀ x, PyData.depthAll (g x) ≤ 6) : sortB (ks.map fun x => .tuple (.str x :: g x)) = true := by
  unfold sortB
  rw [Bool.and_eq_true, Bool.and_eq_true, Bool.and_eq_true, Bool.or_eq_true]
  refine ⟨⟨⟨List.all_eq_true.mpr fun d hd => List.all_eq_true.mpr fun e he => ?_, .inl (List.all_eq_true.mpr fun d hd => ?_)⟩, List.all_eq_true.mpr fun d hd => ?_⟩, ?_⟩
  · obtain ⟨a, _, rfl⟩ := List.mem_map.mp hd
    obtain ⟨b, _, rfl⟩ := List.mem_map.mp he
    rw [PySem.W.alike, PySem.W.alikeAll, al]
    simp [PySem.W.alike]
  · obtain ⟨a, _, rfl⟩ := List.mem_map.mp hd
    rfl
  · obtain ⟨a, _, rfl⟩ := List.mem_map.mp hd
    have := dp a
    refine decide_eq_true ?_
    rw [PyData.depth, PyData.depthAll]
    simp [PyData.depth]
    omega
  · rw [List.length_map]
    exact decide_eq_true (Nat.le_trans hl (by decide))
def stepL (a : Int) (B : Th) : Wd → Th
  | .take x w => putA B x (a, [w])
  | .ask x => putA B x (a, [])
  | .number x _ => putA B x (a, [])
  | .copy x y => putA B x (look B y)
  | .mix x y z => putA B x (((look B y).1 + (look B z).1 + (look B z).1) % 10007, srt ((look B y).2 ++ (look B z).2))
  | .opn x y => putA B x ((look B y).1 % 2, [])
  | .tell _ => B
  | .wipe x => dropAll B [x]
  | .clear n => dropAll B ((keysA B).filter fun x => inRec x n)
  | .drop xs => dropAll B xs
/-- what is popped, one behind the other -/
def goneL : Th → List Str → List (Str × List Str)
  | _, [] => []
  | B, x :: xs => (x, (look B x).2) :: goneL (dropA B x) xs
def pairD (p : Str × List Str) : D := .tuple [.str p.1, .tuple (p.2.map PyData.str)]
structure Rel (A B : Th) : Prop where
  eq : ∀ x, look A x = look B x
  a : (keysA A).Nodup
  b : (keysA B).Nodup
  nz : ∀ p ∈ A, p.2 ≠ zer
theorem Rel.nil : Rel [] [] := ⟨fun _ => rfl, List.nodup_nil, List.nodup_nil, fun _ h => nomatch h⟩
section
variable {A B : Th}
theorem Rel.keys (h : Rel A B) {x : Str} : x ∈ keysA A ↔ look B x ≠ zer := by
  rw [← h.eq x]
  constructor
  · intro hx
    obtain ⟨p, hp, rfl⟩ := List.mem_map.mp hx
    unfold look
    rw [lookA_of h.a (v := p.2) hp]
    exact h.nz p hp
  · intro hx
    by_cases k : x ∈ keysA A
    · exact k
    · unfold look at hx
      rw [lookA_none.mpr k] at hx
      exact absurd rfl hx
theorem nz_keys {x : Str} (h : look B x ≠ zer) : x ∈ keysA B := by
  by_cases k : x ∈ keysA B
  · exact k
  · unfold look at h
    rw [lookA_none.mpr k] at h
    exact absurd rfl h
theorem Rel.held (h : Rel A B) : srt ((keysA B).filter fun x => decide (look B x ≠ zer)) = skeys A := srt_same fun x => by
  rw [List.mem_filter, h.keys]
  exact ⟨fun z => of_decide_eq_true z.2, fun z => ⟨nz_keys z, decide_eq_true z⟩⟩
theorem pute_nz {x : Str} {v : Vl} (h : ∀ p ∈ A, p.2 ≠ zer) : ∀ p ∈ pute A x v, p.2 ≠ zer := fun p hp => by
  unfold pute at hp
  split at hp
  · exact h p (List.mem_filter.mp hp).1
  · rename_i hv
    rcases put_mem hp with z | z
    · exact h p z
    · rw [z]; exact hv
theorem pute_nd {x : Str} {v : Vl} (h : (keysA A).Nodup) : (keysA (pute A x v)).Nodup := by
  unfold pute
  split
  · exact keys_filter h
  · exact keys_put h
theorem Rel.put (h : Rel A B) {x : Str} {v : Vl} : Rel (pute A x v) (putA B x v) :=
  ⟨fun y => by rw [look_pute, look_put, h.eq], pute_nd h.a, keys_put h.b, pute_nz h.nz⟩
theorem Rel.drop (h : Rel A B) (xs : List Str) : Rel (dropAll A xs) (dropAll B xs) :=
  ⟨fun y => by rw [look_dropAll, look_dropAll, h.eq], dropAll_nd h.a, dropAll_nd h.b, fun p hp => h.nz p (dropAll_mem hp)⟩
theorem look_clear {C : Th} {f : Str → Bool} {y : Str} : look (dropAll C ((keysA C).filter f)) y = if f y = true then zer else look C y := by
  rw [look_dropAll]
  by_cases h : f y = true
  · rw [if_pos h]
    by_cases k : y ∈ keysA C
    · rw [if_pos (List.mem_filter.mpr ⟨k, h⟩)]
    · rw [if_neg fun z => k (List.mem_filter.mp z).1]
      unfold look
      rw [lookA_none.mpr k]
      rfl
  · rw [if_neg h, if_neg fun z => h (List.mem_filter.mp z).2]
theorem Rel.step (h : Rel A B) {a : Int} {w : Wd} (hw : ∀ x n, w = .number x n → a = n) : Rel (stepP a A w) (stepL a B w) := by
  cases w with
  | take x w => exact h.put
  | ask x => exact h.put
  | number x n =>
    have := hw x n rfl
    subst this
    exact h.put
  | copy x y =>
    show Rel (pute A x (look A y)) (putA B x (look B y))
    rw [h.eq]
    exact h.put
  | mix x y z =>
    show Rel (pute A x _) (putA B x _)
    rw [h.eq, h.eq]
    have e : (look B y).1 + 2 * (look B z).1 = (look B y).1 + (look B z).1 + (look B z).1 := by omega
    rw [e]
    exact h.put
  | opn x y =>
    show Rel (pute A x _) (putA B x _)
    rw [h.eq]
    exact h.put
  | tell x => exact h
  | wipe x => exact h.drop _
  | clear n => exact ⟨fun y => by
      show look (dropAll A _) y = look (dropAll B _) y
      rw [look_clear, look_clear, h.eq], dropAll_nd h.a, dropAll_nd h.b, fun p hp => h.nz p (dropAll_mem hp)⟩
  | drop xs => exact h.drop _
theorem Rel.tell (h : Rel A B) (w : Wd) : tellP A w = tellP B w := by
  cases w with
  | tell x => show [_] = [_]; rw [h.eq]
  | _ => rfl
theorem look_fold {A : Th} : ∀ {xs : List Str} {M : Th} {y : Str}, look (xs.foldl (fun M x => pute M x (look A x)) M) y = if y ∈ xs then look A y else look M y
  | [], M, y => by simp
  | x :: xs, M, y => by
    rw [List.foldl_cons, look_fold, look_pute]
    by_cases h : y ∈ xs
    · simp [h]
    · by_cases hx : y = x
      · simp [hx]
      · simp [h, hx]
theorem look_dropped {xs : List Str} {y : Str} : look (dropped A xs) y = if y ∈ xs then look A y else zer := look_fold
theorem gone_mem : ∀ {xs : List Str} {B : Th} {x : Str} {ws : List Str}, (x, ws) ∈ (goneL B xs).filter (fun p => !p.2.isEmpty) ↔ x ∈ xs ∧ ws = (look B x).2 ∧ ws ≠ []
  | [], B, x, ws => by simp [goneL]
  | y :: xs, B, x, ws => by
    have hne : ∀ ws : List Str, (!ws.isEmpty) = true ↔ ws ≠ [] := fun ws => by cases ws <;> simp
    have ih := gone_mem (xs := xs) (B := dropA B y) (x := x) (ws := ws)
    rw [List.mem_filter] at ih ⊢
    show (x, ws) ∈ (y, (look B y).2) :: goneL (dropA B y) xs ∧ _ ↔ _
    rw [List.mem_cons, hne]
    rw [hne, look_drop] at ih
    by_cases h : x = y
    · subst h
      rw [if_pos rfl] at ih
      constructor
      · rintro ⟨z | z, k⟩
        · exact ⟨by simp, (Prod.mk.inj z).2, k⟩
        · have := (ih.mp ⟨z, k⟩).2.1
          exact absurd this k
      · rintro ⟨_, e, k⟩
        exact ⟨.inl (by rw [e]), k⟩
    · rw [if_neg h] at ih
      constructor
      · rintro ⟨z | z, k⟩
        · exact absurd (Prod.mk.inj z).1 h
        · obtain ⟨a, b, c⟩ := ih.mp ⟨z, k⟩
          exact ⟨List.mem_cons_of_mem _ a, b, c⟩
      · rintro ⟨a, b, c⟩
        rcases List.mem_cons.mp a with a | a
        · exact absurd a h
        · exact ⟨.inr (ih.mpr ⟨a, b, c⟩).1, c⟩
theorem gone_nd : ∀ {xs : List Str} {B : Th}, (((goneL B xs).filter fun p => !p.2.isEmpty).map (·.1)).Nodup
  | [], B => List.nodup_nil
  | y :: xs, B => by
    have ih := gone_nd (xs := xs) (B := dropA B y)
    show ((((y, (look B y).2) :: goneL (dropA B y) xs).filter fun p => !p.2.isEmpty).map (·.1)).Nodup
    rw [List.filter_cons]
    split
    · rw [List.map_cons]
      refine List.nodup_cons.mpr ⟨fun z => ?_, ih⟩
      obtain ⟨⟨x, ws⟩, hp, e⟩ := List.mem_map.mp z
      have e : x = y := e
      subst e
      have k := gone_mem.mp hp
      rw [look_drop, if_pos rfl] at k
      exact k.2.2 k.2.1
    · exact ih
def outK (B : Th) (xs : List Str) : List Str := ((goneL B xs).filter fun p => !p.2.isEmpty).map (·.1)
theorem gone_pairs {xs : List Str} : ((goneL B xs).filter fun p => !p.2.isEmpty).map pairD = (outK B xs).map fun x => .tuple [.str x, .tuple ((look B x).2.map PyData.str)] := by
  unfold outK
  rw [List.map_map]
  refine List.map_congr_left fun p hp => ?_
  obtain ⟨x, ws⟩ := p
  have := (gone_mem.mp hp).2.1
  show pairD (x, ws) = .tuple [.str x, .tuple ((look B x).2.map PyData.str)]
  rw [← this]
  rfl
theorem out_sorted {xs : List Str} : sortD (((goneL B xs).filter fun p => !p.2.isEmpty).map pairD) = (srt (outK B xs)).map fun x => .tuple [.str x, .tuple ((look B x).2.map PyData.str)] := by
  rw [gone_pairs]
  exact sort_box (g := fun x => [.tuple ((look B x).2.map PyData.str)]) gone_nd
theorem mem_outK {xs : List Str} {x : Str} : x ∈ outK B xs ↔ x ∈ xs ∧ (look B x).2 ≠ [] := by
  unfold outK
  rw [List.mem_map]
  constructor
  · rintro ⟨⟨y, ws⟩, hp, rfl⟩
    obtain ⟨a, b, c⟩ := gone_mem.mp hp
    exact ⟨a, b ▸ c⟩
  · rintro ⟨a, b⟩
    exact ⟨(x, (look B x).2), gone_mem.mpr ⟨a, rfl, b⟩, rfl⟩
theorem ws_keys {C : Th} {x : Str} (h : (look C x).2 ≠ []) : x ∈ keysA C := nz_keys fun z => h (by rw [z]; rfl)
theorem Rel.out (h : Rel A B) {pl : D} {xs : List Str} : keptD pl (dropped A xs) = (srt (outK B xs)).map fun x => .tuple [pl, .str x, .tuple ((look B x).2.map PyData.str)] := by
  unfold keptD skeys
  rw [srt_filter]
  have e : srt ((keysA (dropped A xs)).filter fun x => !(look (dropped A xs) x).2.isEmpty) = srt (outK B xs) := srt_same fun x => by
    have hne : ∀ ws : List Str, (!ws.isEmpty) = true ↔ ws ≠ [] := fun ws => by cases ws <;> simp
    rw [List.mem_filter, mem_outK, hne]
    constructor
    · rintro ⟨_, k⟩
      rw [look_dropped] at k
      by_cases hx : x ∈ xs
      · rw [if_pos hx, h.eq] at k
        exact ⟨hx, k⟩
      · rw [if_neg hx] at k
        exact absurd rfl k
    · rintro ⟨a, b⟩
      have k : (look (dropped A xs) x).2 ≠ [] := by
        rw [look_dropped, if_pos a, h.eq]
        exact b
      exact ⟨ws_keys k, k⟩
  rw [e]
  refine List.map_congr_left fun x hx => ?_
  have hx := (mem_outK.mp (srt_mem.mp hx)).1
  rw [look_dropped, if_pos hx, h.eq]
/-- what is left at the end -/
theorem Rel.kept (h : Rel A B) {pl : D} : keptD pl A = ((skeys A).filter fun x => !(look B x).2.isEmpty).map fun x => .tuple [pl, .str x, .tuple ((look B x).2.map PyData.str)] := by
  unfold keptD
  have e : (fun x => !(look A x).2.isEmpty) = fun x => !(look B x).2.isEmpty := by funext x; rw [h.eq]
  rw [e]
  refine List.map_congr_left fun x _ => ?_
  rw [h.eq]
theorem Rel.shown (h : Rel A B) : shownD A = .tuple ((skeys A).map fun x => .tuple [.str x, .int (look B x).1, .tuple ((look B x).2.map PyData.str)]) := by
  unfold shownD
  congr 1
  refine List.map_congr_left fun x _ => ?_
  rw [h.eq]
end
end Ds.K10
namespace Ds.K10
open PySem PySem.Spec PyProof.Rows L2 Dn TL
theorem eqv_unit (ds : List D) : PyData.eqv (.tuple ds) (.tuple []) = ds.isEmpty := by cases ds <;> simp [PyData.eqv, PyData.eqvAll]
theorem eqv_zer (v : Vl) : PyData.eqv (valD v) (.tuple [.int 0, .tuple []]) = decide (v = zer) := by
  obtain ⟨n, ws⟩ := v
  have e : PyData.eqv (valD (n, ws)) (.tuple [.int 0, .tuple []]) = (decide (n = 0) && (ws.map PyData.str).isEmpty) := by
    unfold valD
    rw [PyData.eqv, PyData.eqvAll, PyData.eqvAll, PyData.eqvAll, Dn.eqv_int, eqv_unit]
    simp
  rw [e]
  by_cases h : n = 0
  · subst h
    cases ws with
    | nil => rw [decide_eq_true (show ((0, []) : Vl) = zer from rfl)]; rfl
    | cons w ws => rw [decide_eq_false (show ¬ ((0, w :: ws) : Vl) = zer by unfold zer; simp)]; rfl
  · rw [decide_eq_false h, decide_eq_false (show ¬ ((n, ws) : Vl) = zer by unfold zer; simp [h])]
    rfl
theorem sh_val {k : Nat} {v : Vl} (h : ∀ x ∈ v.2, Ok k x) : Sh 3 (valD v) := Sh.tup fun d hd => by
  simp at hd
  rcases hd with rfl | rfl
  · exact Sh.int
  · exact (Sh.strs (k := 0) h).mono (by decide)
def ffs (at_ : D) (th : Nat) : List (Str × Cl) := [("called_at", .sh at_), ("things", .lo th)]
/-- a frame at fr, its dict at th -/
structure Fo (fr th : Nat) (at_ : D) (A : Th) (s : St) : Prop where
  i : s[fr]? = some (.ins "Frame" (ffs at_ th))
  d : s[th]? = some (.dk (kvE A))
  ne : fr ≠ th
theorem Fo.fz {fr th : Nat} {at_ : D} {A : Th} {s s' : St} (h : Fo fr th at_ A s) (f : Fz s s') : Fo fr th at_ A s' := ⟨f.at_ h.i, f.at_ h.d, h.ne⟩
theorem Fo.put {fr th : Nat} {at_ : D} {A B : Th} {s : St} (h : Fo fr th at_ A s) : Fo fr th at_ B (s.set th (.dk (kvE B))) := ⟨(set_other h.ne).trans h.i, set_same (lt_of_at h.d), h.ne⟩
theorem Fo.id {fr th : Nat} {at_ : D} {A : Th} {s : St} (h : Fo fr th at_ A s) : s.set th (.dk (kvE A)) = s := set_id h.d
end Ds.K10
namespace Ds.K10
open PySem PySem.Spec PyProof.Rows L2 Dn TL
section
variable {fr th : Nat} {at_ : D} {A : Th} {s : St} {Q : Cl → St → Prop} {Ws Bs : List Str} {c : Nat}
theorem look_ {x : Str} (h : Fo fr th at_ A s) (q : Q (.sh (valD (look A x))) s) : FRun f_Frame_look [.lo fr, .sh (.str x)] s Q := by
  refine frun_fn rfl ?_
  unfold m_Frame_look
  repeat walk_at "ds"
  refine ⟨_, _, h.i, rfl, ?_⟩
  repeat walk_at "ds"
  refine ⟨_, h.d, ?_⟩
  repeat walk_at "ds"
  refine ⟨_, .inr x, h.d, rfl, ?_⟩
  have e2 : (Cl.sh (.tuple [.int 0, .tuple []])) = .sh (valD zer) := rfl
  rw [e2, look_kvE]
  repeat walk_at "ds"
  rw [trim_len rfl]
  exact q
theorem popc {x : Str} {c : Cl} (h : valC (kvE A) (.inr x) = some c) : ∃ v, c = .sh (valD v) := by
  rw [val_kvE] at h
  obtain ⟨v, _, rfl⟩ := Option.map_eq_some_iff.mp h
  exact ⟨v, rfl⟩
theorem popn {x : Str} (h : Fo fr th at_ A s) (hc : valC (kvE A) (.inr x) = none) : s.set th (.dk (kvE (dropA A x))) = s := by
  rw [val_kvE, Option.map_eq_none_iff] at hc
  rw [drop_none hc, h.id]
theorem put_ {k : Nat} {x : Str} {v : Vl} (h : Fo fr th at_ A s) (hA : A.length ≤ 1000) (hv : ∀ w ∈ v.2, Ok k w) (q : Q (.sh .none) (s.set th (.dk (kvE (pute A x v))))) : FRun f_Frame_put [.lo fr, .sh (.str x), .sh (valD v)] s Q := by
  refine frun_fn rfl ?_
  unfold m_Frame_put
  repeat walk_at "ds"
  refine bx_eq (.inl rfl) ((sh_val hv).ok) rfl ?_
  rw [eqv_zer]
  repeat walk_at "ds"
  refine two_dec (fun hz => ?_) (fun hz => ?_)
  · repeat walk_at "ds"
    refine ⟨_, _, h.i, rfl, ?_⟩
    repeat walk_at "ds"
    refine ⟨_, h.d, ?_⟩
    repeat walk_at "ds"
    have e : pute A x v = dropA A x := if_pos hz
    rw [e] at q
    refine ⟨_, .inr x, h.d, rfl, fun c hc => ?_, fun hc => ?_⟩
    · obtain ⟨v', rfl⟩ := popc hc
      rw [drop_kvE]
      repeat walk_at "ds"
      rw [trim_len (by simp)]
      exact q
    · rw [popn h hc] at q
      repeat walk_at "ds"
      rw [trim_len rfl]
      exact q
  · repeat walk_at "ds"
    refine ⟨_, _, h.i, rfl, ?_⟩
    repeat walk_at "ds"
    refine ⟨_, .inr x, h.d, rfl, by rw [kvE_len]; exact Nat.lt_of_le_of_lt hA (by decide), ?_⟩
    rw [put_kvE]
    repeat walk_at "ds"
    have e : pute A x v = putA A x v := if_neg hz
    rw [e] at q
    rw [trim_len (by simp)]
    exact q
theorem empty_ {xs : List Str} (h : Fo fr th at_ A s) (q : Q (.sh .none) (s.set th (.dk (kvE (dropAll A xs))))) : FRun f_Frame_empty [.lo fr, .sh (.list (xs.map PyData.str))] s Q := by
  refine frun_fn rfl ?_
  unfold m_Frame_empty
  repeat walk_at "ds"
  refine run_forR _ (fun rem e s' => ∃ (B C : List Str) (z : Cl), xs = B ++ C ∧ rem = C.map PyData.str ∧ s' = s.set th (.dk (kvE (dropAll A B))) ∧ e = [.lo fr, .sh (.list (xs.map PyData.str)), z]) ⟨[], xs, _, rfl, rfl, h.id.symm, rfl⟩ (fun d rem e s' hI => ?_) fun e s' hI => ?_
  · obtain ⟨B, C, z, hxs, hr, rfl, rfl⟩ := hI
    cases C with
    | nil => cases hr
    | cons x C =>
      rw [List.map_cons] at hr
      injection hr with hr1 hr2
      subst hr1
      subst hr2
      have h2 := h.put (B := dropAll A B)
      have e : dropAll A (B ++ [x]) = dropA (dropAll A B) x := by unfold dropAll; rw [List.foldl_append]; rfl
      refine ⟨_, rfl, ?_⟩
      repeat walk_at "ds"
      refine ⟨_, _, h2.i, rfl, ?_⟩
      repeat walk_at "ds"
      refine ⟨_, h2.d, ?_⟩
      repeat walk_at "ds"
      refine ⟨_, .inr x, h2.d, rfl, fun c hc => ?_, fun hc => ?_⟩
      · obtain ⟨v', rfl⟩ := popc hc
        rw [drop_kvE, List.set_set]
        repeat walk_at "ds"
        exact ⟨B ++ [x], C, _, by rw [hxs]; simp, rfl, by rw [e], rfl⟩
      · have e3 := popn h2 hc
        rw [List.set_set] at e3
        repeat walk_at "ds"
        exact ⟨B ++ [x], C, _, by rw [hxs]; simp, rfl, by rw [e, e3], rfl⟩
  · obtain ⟨B, C, z, hxs, hr, rfl, rfl⟩ := hI
    have hC : C = [] := by cases C with
      | nil => rfl
      | cons _ _ => cases hr
    subst hC
    rw [List.append_nil] at hxs
    subst hxs
    repeat walk_at "ds"
    rw [trim_len (by simp)]
    exact q
theorem keys_sorted (hA : ThOk Ws Bs c A) (hc : c ≤ 60) : ∃ ks, keysS (kvE A) = some ks ∧ ks.length < 64 ∧ (sortT ks).map PyData.str = (skeys A).map PyData.str :=
  ⟨_, keys_kvE A, by unfold keysA; rw [List.length_map]; have := hA.len; omega, by rw [sortT_nd hA.nd]; rfl⟩
theorem mem_skeys {x : Str} : x ∈ skeys A ↔ x ∈ keysA A := srt_mem
theorem look_at (hA : ThOk Ws Bs c A) {x : Str} (hx : x ∈ keysA A) : valC (kvE A) (.inr x) = some (.sh (valD (look A x))) := by
  rw [val_kvE]
  obtain ⟨p, hp, rfl⟩ := List.mem_map.mp hx
  unfold look
  rw [lookA_of hA.nd (v := p.2) hp]
  rfl
theorem kept_ {pl : D} (h : Fo fr th at_ A s) (hA : ThOk Ws Bs c A) (hc : c ≤ 60) (hW : ∀ w ∈ Ws, Ok 10 w) (q : Q (.sh (.list (keptD pl A))) s) : FRun f_Frame_kept_here [.lo fr, .sh pl] s Q := by
  refine frun_fn rfl ?_
  unfold m_Frame_kept_here
  repeat walk_at "ds"
  refine ⟨_, _, h.i, rfl, ?_⟩
  repeat walk_at "ds"
  obtain ⟨ks, k1, k2, k3⟩ := keys_sorted hA hc
  refine ⟨_, ks, h.d, k1, k2, ?_⟩
  rw [k3]
  repeat walk_at "ds"
  have hl : (skeys A).length ≤ 60 := Nat.le_trans srt_len (by unfold keysA; rw [List.length_map]; have := hA.len; omega)
  refine ⟨by rw [List.length_map]; exact line_of (by omega), ?_⟩
  refine run_compR _ (fun rem ys e s' => s' = s ∧ e = [.lo fr, .sh pl, .no] ∧ ∃ B C : List Str, skeys A = B ++ C ∧ rem = C.map PyData.str ∧ ys = (B.filter fun x => !(look A x).2.isEmpty).map fun x => .tuple [pl, .str x, .tuple ((look A x).2.map PyData.str)]) ⟨rfl, rfl, [], skeys A, rfl, rfl, rfl⟩ (fun d rem ys e s' hJ => ?_) fun ys e s' hJ => ?_
  · obtain ⟨rfl, rfl, B, C, hks, hr, rfl⟩ := hJ
    cases C with
    | nil => cases hr
    | cons x C =>
      rw [List.map_cons] at hr
      injection hr with hr1 hr2
      subst hr1
      subst hr2
      have hx : x ∈ keysA A := mem_skeys.mp (by rw [hks]; simp)
      have hv := look_at hA hx
      have w := hA.look x
      refine ⟨_, rfl, ?_⟩
      repeat walk_at "ds"
      refine ⟨_, _, h.i, rfl, ?_⟩
      repeat walk_at "ds"
      refine ⟨_, .inr x, _, h.d, rfl, hv, ?_⟩
      repeat walk_at "ds"
      refine bx_ne (.inl rfl) ((Sh.strs (k := 0) fun y hy => hW y (w.mem y hy)).ok (by decide)) rfl ?_
      rw [eqv_unit]
      have e1 : ((look A x).2.map PyData.str).isEmpty = (look A x).2.isEmpty := by cases (look A x).2 <;> rfl
      rw [e1]
      repeat walk_at "ds"
      refine ⟨fun hb => ?_, fun hb => ?_⟩
      · repeat walk_at "ds"
        exact ⟨rfl, rfl, B ++ [x], C, by rw [hks]; simp, rfl, by rw [List.filter_append, List.map_append]; simp [hb]⟩
      · repeat walk_at "ds"
        refine ⟨_, _, h.i, rfl, ?_⟩
        repeat walk_at "ds"
        refine ⟨_, .inr x, _, h.d, rfl, hv, ?_⟩
        repeat walk_at "ds"
        exact ⟨rfl, rfl, B ++ [x], C, by rw [hks]; simp, rfl, by rw [List.filter_append, List.map_append]; simp [hb]⟩
  · obtain ⟨rfl, rfl, B, C, hks, hr, rfl⟩ := hJ
    have hC : C = [] := by cases C with
      | nil => rfl
      | cons _ _ => cases hr
    subst hC
    rw [List.append_nil] at hks
    rw [← hks]
    refine ⟨_, shL_map _, ?_⟩
    repeat walk_at "ds"
    rw [trim_len rfl]
    exact q
theorem shown_ (h : Fo fr th at_ A s) (hA : ThOk Ws Bs c A) (hc : c ≤ 60) (q : Q (.sh (shownD A)) s) : FRun f_Frame_shown [.lo fr] s Q := by
  refine frun_fn rfl ?_
  unfold m_Frame_shown
  repeat walk_at "ds"
  refine ⟨_, _, h.i, rfl, ?_⟩
  repeat walk_at "ds"
  obtain ⟨ks, k1, k2, k3⟩ := keys_sorted hA hc
  refine ⟨_, ks, h.d, k1, k2, ?_⟩
  rw [k3]
  repeat walk_at "ds"
  have hl : (skeys A).length ≤ 60 := Nat.le_trans srt_len (by unfold keysA; rw [List.length_map]; have := hA.len; omega)
  refine ⟨by rw [List.length_map]; exact line_of (by omega), ?_⟩
  refine run_compR _ (fun rem ys e s' => s' = s ∧ e = [.lo fr, .no] ∧ ∃ B C : List Str, skeys A = B ++ C ∧ rem = C.map PyData.str ∧ ys = B.map fun x => .tuple [.str x, .int (look A x).1, .tuple ((look A x).2.map PyData.str)]) ⟨rfl, rfl, [], skeys A, rfl, rfl, rfl⟩ (fun d rem ys e s' hJ => ?_) fun ys e s' hJ => ?_
  · obtain ⟨rfl, rfl, B, C, hks, hr, rfl⟩ := hJ
    cases C with
    | nil => cases hr
    | cons x C =>
      rw [List.map_cons] at hr
      injection hr with hr1 hr2
      subst hr1
      subst hr2
      have hx : x ∈ keysA A := mem_skeys.mp (by rw [hks]; simp)
      have hv := look_at hA hx
      refine ⟨_, rfl, ?_⟩
      repeat walk_at "ds"
      refine ⟨_, _, h.i, rfl, ?_⟩
      repeat walk_at "ds"
      refine ⟨_, .inr x, _, h.d, rfl, hv, ?_⟩
      repeat walk_at "ds"
      exact ⟨rfl, rfl, B ++ [x], C, by rw [hks]; simp, rfl, by rw [List.map_append]; rfl⟩
  · obtain ⟨rfl, rfl, B, C, hks, hr, rfl⟩ := hJ
    have hC : C = [] := by cases C with
      | nil => rfl
      | cons _ _ => cases hr
    subst hC
    rw [List.append_nil] at hks
    rw [← hks]
    refine ⟨_, shL_map _, ?_⟩
    repeat walk_at "ds"
    rw [trim_len rfl]
    exact q
theorem both_ {xs ys : List Str} (hl : xs.length + ys.length ≤ 100) (q : Q (.sh (.tuple ((srt (xs ++ ys)).map PyData.str))) s) : FRun f_both [.sh (.tuple (xs.map PyData.str)), .sh (.tuple (ys.map PyData.str))] s Q := by
  refine frun_fn rfl ?_
  unfold m_both
  repeat walk_at "ds"
  refine bx_add_tup (line_of (by rw [List.length_map, List.length_map]; omega)) ?_
  rw [← List.map_append]
  repeat walk_at "ds"
  refine ⟨_, _, _, rfl, rfl, toSs_map _, by rw [List.length_append]; show _ + 1 < 4096; omega, ?_⟩
  repeat walk_at "ds"
  rw [trim_len rfl]
  exact q
theorem is_answer_ {i n : Int} (h1 : 0 ≤ i) (h2 : i < n) (q : Q (.sh (.bool true)) s) : FRun f_is_answer [.sh (.int i), .sh (.int n)] s Q := by
  refine frun_fn rfl ?_
  unfold m_is_answer
  repeat walk_at "ds"
  refine two_dec (fun h => ?_) (fun h => absurd h1 h)
  repeat walk_at "ds"
  rw [trim_len rfl]
  rw [decide_eq_true h2]
  exact q
end
end Ds.K10
namespace Ds.K10
open PySem PySem.Spec PyProof.Rows L2 Dn TL
theorem rng2 : bRng3 (.int 2) (.int 2) (.int 2) = some [] := by
  have e : Builtin.Range.rangeSize 2 2 2 = 0 := by
    unfold Builtin.Range.rangeSize
    rw [if_pos (by decide)]
    rfl
  have ok : okStep 2 2 2 = true := by
    unfold okStep Builtin.Range.small
    rw [e]
    unfold Builtin.Range.rangeFitsLong
    rw [if_pos (by decide)]
    simp
  show (if okStep 2 2 2 = true then some (stepD 2 ((2 : Int)) (Builtin.Range.rangeSize 2 2 2).toNat) else none) = _
  rw [if_pos ok, e]
  rfl
def Lo (x : Str) : Prop := Ok 8 x ∧ 46 ∉ tl x
def parts (x : Str) : List Str := Txt.split x "."
theorem bx_parts {x : Str} {Q : D → Prop} (hx : x.length ≤ 100000) (h : Q (.list ((parts x).map PyData.str))) : ∃ c, sSplit x [.str "."] = some c ∧ Q c := bx_split rfl (by unfold sizeLine; omega) h
theorem spl_first (r : List Nat) : ∀ (l acc : List Nat), 46 ∉ l → spl [46] 0 acc (l ++ 46 :: r) = (acc ++ l) :: spl [46] 0 [] r
  | [], acc, _ => by
    rw [List.nil_append, spl_hit (by simp [pre]), List.append_nil]
    rfl
  | c :: l, acc, h => by
    rw [List.cons_append, spl_miss (by simp [pre]; intro z; exact absurd (z ▸ List.mem_cons_self) h), spl_first r l _ fun z => h (List.mem_cons_of_mem _ z)]
    simp
theorem spl_none : ∀ (l acc : List Nat), 46 ∉ l → spl [46] 0 acc l = [acc ++ l]
  | [], acc, _ => by simp [spl]
  | c :: l, acc, h => by
    rw [spl_miss (by simp [pre]; intro z; exact absurd (z ▸ List.mem_cons_self) h), spl_none l _ fun z => h (List.mem_cons_of_mem _ z)]
    simp
theorem tl_dot (x y : Str) : tl (x ++ "." ++ y) = tl x ++ 46 :: tl y := by
  rw [tl_append, tl_append, List.append_assoc]
  rfl
theorem first_part {x y : Str} (h : Lo x) : ∃ rest, parts (x ++ "." ++ y) = x :: rest := by
  have e := split_spl (x ++ "." ++ y) ⟨#[46]⟩ (by simp [tl]) (kind_ok (sep_ok (by decide)))
  rw [tl_dot, show tl (⟨#[46]⟩ : Str) = [46] from rfl, spl_first _ _ _ h.2] at e
  cases q : Txt.split (x ++ "." ++ y) ⟨#[46]⟩ with
  | nil => rw [q] at e; simp at e
  | cons p rest =>
    rw [q] at e
    have := (List.cons.inj e).1
    have hp : p = x := ext_tl (by simpa using this)
    exact ⟨rest, q.trans (by rw [hp])⟩
theorem only_part {x : Str} (h : Lo x) : parts x = [x] := by
  have e := split_spl x ⟨#[46]⟩ (by simp [tl]) (kind_ok (sep_ok (by decide)))
  rw [show tl (⟨#[46]⟩ : Str) = [46] from rfl, spl_none _ _ h.2] at e
  cases q : Txt.split x ⟨#[46]⟩ with
  | nil => rw [q] at e; simp at e
  | cons p rest =>
    rw [q] at e
    have h1 := (List.cons.inj e).1
    have h2 := (List.cons.inj e).2
    have hp : p = x := ext_tl (by simpa using h1)
    have hr : rest = [] := by cases rest with
      | nil => rfl
      | cons _ _ => simp at h2
    rw [hp, hr] at q
    exact q
theorem dot_in {x y : Str} : strIn "." (x ++ "." ++ y) = true := by
  show strIn ⟨#[46]⟩ _ = true
  rw [strIn1, tl_append, tl_append]
  simp [tl, show ("." : Str).cps = #[46] from rfl]
theorem dot_out {x : Str} (h : Lo x) : strIn "." x = false := by
  show strIn ⟨#[46]⟩ _ = false
  rw [strIn1]
  simpa using h.2
/-- a box: a name, or two with a dot between -/
inductive Bxo : Str → Prop where
  | one {a : Str} : Lo a → Bxo a
  | two {a b : Str} : Lo a → Lo b → Bxo (a ++ "." ++ b)
theorem Bxo.ok {x : Str} (h : Bxo x) : Ok 20 x := by
  cases h with
  | one h => exact h.1.mono (by decide)
  | two h k => exact ((h.1.append (Ok.lit "." 1 (by decide))).append k.1).mono (by decide)
/-- the first name of a box -/
theorem Bxo.first {x : Str} (h : Bxo x) : ∃ a rest, Lo a ∧ parts x = a :: rest := by
  cases h with
  | one h => exact ⟨_, [], h, only_part h⟩
  | two h k => obtain ⟨r, e⟩ := first_part (y := _) h; exact ⟨_, r, h, e⟩
theorem inRec_one {x n : Str} (h : Lo x) : inRec x n = false := by
  unfold inRec
  refine decide_eq_false fun z => h.2 ?_
  have : 46 ∈ (tl x).take (n.length + 1) := by rw [z]; simp
  exact List.mem_of_mem_take this
theorem pre_eq : ∀ {a n r : List Nat}, 46 ∉ a → 46 ∉ n → ((a ++ 46 :: r).take (n.length + 1) = n ++ [46] ↔ a = n)
  | [], [], r, _, _ => by simp
  | [], m :: n, r, _, h => by
    constructor
    · intro z
      rw [List.nil_append, List.length_cons, List.take_succ_cons, List.cons_append] at z
      have := (List.cons.inj z).1
      exact absurd (this ▸ List.mem_cons_self) h
    · intro z; cases z
  | c :: a, [], r, h, _ => by
    constructor
    · intro z
      rw [List.cons_append, List.length_nil, List.take_succ_cons, List.nil_append] at z
      have := (List.cons.inj z).1
      exact absurd (this ▸ List.mem_cons_self) h
    · intro z; cases z
  | c :: a, m :: n, r, h, k => by
    rw [List.cons_append, List.length_cons, List.take_succ_cons, List.cons_append]
    have ih := pre_eq (a := a) (n := n) (r := r) (fun z => h (List.mem_cons_of_mem _ z)) fun z => k (List.mem_cons_of_mem _ z)
    constructor
    · intro z
      rw [(List.cons.inj z).1, ih.mp (List.cons.inj z).2]
    · intro z
      rw [(List.cons.inj z).1, ih.mpr (List.cons.inj z).2]
theorem inRec_two {a b n : Str} (h : Lo a) (k : 46 ∉ tl n) : inRec (a ++ "." ++ b) n = decide (a = n) := by
  unfold inRec
  rw [tl_dot, len_tl]
  refine decide_eq_decide.mpr ((pre_eq h.2 k).trans ⟨fun z => ext_tl z, fun z => by rw [z]⟩)
def plD (k : Nat) : D := .tuple [.str "", .int k]
def wholeD (row : List Wd) : D := .tuple [.tuple [], .tuple (row.map encW)]
def wAt (row : List Wd) (k : Nat) : D := match row[k]? with
  | some w => encW w
  | none => .none
end Ds.K10
namespace Ds.K10
open PySem PySem.Spec PyProof.Rows L2 Dn TL
section
variable {s : St} {Q : Cl → St → Prop}
theorem first_name_ {x : Str} {a : Str} {rest : List Str} (hx : x.length ≤ 1000) (e : parts x = a :: rest) (q : Q (.sh (.str a)) s) : FRun f_first_name [.sh (.str x)] s Q := by
  refine frun_fn rfl ?_
  unfold m_first_name
  repeat walk_at "ds"
  refine bx_parts (by omega) ?_
  rw [e]
  repeat walk_at "ds"
  refine bx_ix_lst (d := .str a) (by unfold atI ixN; rw [if_pos (by omega), if_pos (by rw [List.length_map, List.length_cons]; omega)]; rfl) ?_
  repeat walk_at "ds"
  rw [trim_len rfl]
  exact q
theorem in_record_ {x n : Str} (hx : Bxo x) (hn : 46 ∉ tl n) (q : Q (.sh (.bool (inRec x n))) s) : FRun f_in_record [.sh (.str x), .sh (.str n)] s Q := by
  have hl := hx.ok.1
  refine frun_fn rfl ?_
  unfold m_in_record
  repeat walk_at "ds"
  cases hx with
  | one h =>
    rw [inRec_one h] at q
    rw [dot_out h]
    repeat walk_at "ds"
    rw [trim_len rfl]
    exact q
  | @two a b h k =>
    rw [inRec_two h hn] at q
    rw [dot_in]
    obtain ⟨r, e⟩ := first_part (y := b) h
    repeat walk_at "ds"
    refine first_name_ (a := a) (rest := r) (Nat.le_trans hl (by decide)) e ?_
    repeat walk_at "ds"
    rw [trim_len rfl]
    exact q
theorem along_ {R : List D} {k : Int} (q : ∀ s', Fz s s' → Q (.sh (.list [.tuple [.tuple R, .int k]])) s') : FRun f_words_along [.sh (.tuple [.tuple [], .tuple R]), .sh (.tuple [.str "", .int k])] s Q := by
  refine frun_fn rfl ?_
  unfold m_words_along
  repeat walk_at "ds"
  refine frun_fn rfl ?_
  unfold m_row_of
  iterate 8 walk_at "ds"
  refine two_dec (fun _ => ?_) (fun h => absurd rfl h)
  iterate 44 walk_at "ds"
  refine ⟨[], rng2, ?_⟩
  have et : ∀ c, trim s.length c s = s := fun c => trim_len rfl
  rw [et]
  repeat walk_at "ds"
  refine ⟨_, _, app_new, rfl, ?_⟩
  repeat walk_at "ds"
  exact q _ (Fz.app.put (Nat.le_refl _)).trim
theorem word_at_ {row : List Wd} {k : Nat} (hk : k ≤ row.length) (q : ∀ s', Fz s s' → Q (.sh (wAt row k)) s') : FRun f_word_at [.sh (wholeD row), .sh (plD k)] s Q := by
  refine frun_fn rfl ?_
  unfold m_word_at wholeD plD
  repeat walk_at "ds"
  refine along_ fun s' F => ?_
  repeat walk_at "ds"
  refine two_dec (fun h => ?_) (fun h => ?_)
  · rw [List.length_map] at h
    have hk2 : k = row.length := by omega
    have e : wAt row k = .none := by unfold wAt; rw [List.getElem?_eq_none (by omega)]
    rw [e] at q
    repeat walk_at "ds"
    exact q _ F.trim
  · rw [List.length_map] at h
    have hk2 : k < row.length := by omega
    have e : wAt row k = encW row[k] := by unfold wAt; rw [List.getElem?_eq_getElem hk2]
    rw [e] at q
    repeat walk_at "ds"
    refine bx_ix_tup (d := encW row[k]) ?_ ?_
    · unfold atI ixN
      rw [List.length_map, if_pos (by omega), if_pos (by omega)]
      simp [hk2]
    repeat walk_at "ds"
    exact q _ F.trim
theorem behind_ {row : List Wd} {k : Nat} (q : ∀ s', Fz s s' → Q (.sh (plD (k + 1))) s') : FRun f_behind [.sh (wholeD row), .sh (plD k)] s Q := by
  show FRun (fnF 2 5 (m_behind (f_G7 13))) _ _ _
  refine frun_fn rfl ?_
  unfold m_behind wholeD plD
  repeat walk_at "ds"
  refine along_ fun s' F => ?_
  repeat walk_at "ds"
  have fin : ∀ s2, Fz s s2 → Q (.sh (.tuple [.str "", .int ((k : Int) + 1)])) s2 := fun s2 F2 => q s2 F2
  refine ⟨fun h => ?_, fun h => ?_⟩
  · repeat walk_at "ds"
    exact fin _ F.trim
  · repeat walk_at "ds"
    refine two_Tb rfl ?_
    repeat walk_at "ds"
    exact fin _ F.trim
theorem first_place_ {pr : D} (q : Q (.sh (plD 0)) s) : FRun f_first_place [.sh pr, .sh (.str "")] s Q := by
  refine frun_fn rfl ?_
  unfold m_first_place
  repeat walk_at "ds"
  rw [trim_len rfl]
  exact q
end
end Ds.K10
namespace Ds.K10
open PySem PySem.Spec PyProof.Rows L2 Dn TL
def rfs (whole given : D) (u st : Int) (ln ll lf : Nat) (ov pl : D) : List (Str × Cl) := [("whole", .sh whole), ("given", .sh given), ("used", .sh (.int u)), ("steps", .sh (.int st)), ("numbers", .lo ln), ("leavings", .lo ll), ("frames", .lo lf), ("over_by", .sh ov), ("place", .sh pl)]
structure Lc where
  p : Nat
  ln : Nat
  ll : Nat
  lf : Nat
  fr : Nat
  th : Nat
def Lc.all (c : Lc) : List Nat := [c.p, c.ln, c.ll, c.lf, c.fr, c.th]
/-- a run on its way -/
structure RS (c : Lc) (row : List Wd) (as : List Int) (u : Nat) (st : Int) (ov pl : D) (A : Th) (T : List Int) (L : List D) (s : St) : Prop where
  i : s[c.p]? = some (.ins "Run" (rfs (wholeD row) (.tuple (as.map PyData.int)) u st c.ln c.ll c.lf ov pl))
  f : s[c.lf]? = some (.lst [.lo c.fr])
  g : Fo c.fr c.th .none A s
  n : s[c.ln]? = some (.lst ((T.map PyData.int).map Cl.sh))
  l : s[c.ll]? = some (.lst (L.map Cl.sh))
  nd : c.all.Nodup
/-- a run that has ended -/
structure RF (c : Lc) (row : List Wd) (as : List Int) (u : Nat) (st : Int) (ov pl : D) (T : List Int) (L : List D) (s : St) : Prop where
  i : s[c.p]? = some (.ins "Run" (rfs (wholeD row) (.tuple (as.map PyData.int)) u st c.ln c.ll c.lf ov pl))
  n : s[c.ln]? = some (.lst ((T.map PyData.int).map Cl.sh))
  l : s[c.ll]? = some (.lst (L.map Cl.sh))
  nd : c.all.Nodup
/-- all else is as it was -/
def Fq (c : Lc) (s s' : St) : Prop := s.length ≤ s'.length ∧ ∀ j, j < s.length → j ∉ c.all → s'[j]? = s[j]?
section
variable {c : Lc} {row : List Wd} {as : List Int} {u : Nat} {st : Int} {ov pl : D} {A : Th} {T : List Int} {L : List D} {s s' : St} {o : Ob}
theorem Fq.refl : Fq c s s := ⟨Nat.le_refl _, fun _ _ _ => rfl⟩
theorem Fq.fz {s0 : St} (h : Fq c s0 s) (f : Fz s s') : Fq c s0 s' := ⟨Nat.le_trans h.1 f.1, fun j hj hn => (f.2 j (Nat.lt_of_lt_of_le hj h.1)).trans (h.2 j hj hn)⟩
theorem Fq.set {s0 : St} {l : Nat} (h : Fq c s0 s) (hl : l ∈ c.all) : Fq c s0 (s.set l o) := ⟨by simpa using h.1, fun j hj hn => (set_other fun z => hn (by rw [z]; exact hl)).trans (h.2 j hj hn)⟩
theorem Fq.put {s0 : St} {l : Nat} (h : Fq c s0 s) (hl : s0.length ≤ l) : Fq c s0 (s.set l o) := ⟨by simpa using h.1, fun j hj hn => (set_other (by omega)).trans (h.2 j hj hn)⟩
theorem Fq.app {s0 : St} (h : Fq c s0 s) : Fq c s0 (s ++ [o]) := ⟨by have := h.1; simp; omega, fun j hj hn => (app_old (Nat.lt_of_lt_of_le hj h.1)).trans (h.2 j hj hn)⟩
theorem Fq.trim {k : Cl} (h : Fq c s s') : Fq c s (trim s.length k s') := ⟨trim_ge h.1, fun j hj hn => (trim_get hj).trans (h.2 j hj hn)⟩
theorem Fq.trans {s1 s2 : St} (h : Fq c s s1) (k : Fq c s1 s2) : Fq c s s2 := ⟨Nat.le_trans h.1 k.1, fun j hj hn => (k.2 j (Nat.lt_of_lt_of_le hj h.1) hn).trans (h.2 j hj hn)⟩
theorem in_p : c.p ∈ c.all := by simp [Lc.all]
theorem in_ln : c.ln ∈ c.all := by simp [Lc.all]
theorem in_ll : c.ll ∈ c.all := by simp [Lc.all]
theorem in_lf : c.lf ∈ c.all := by simp [Lc.all]
theorem in_th : c.th ∈ c.all := by simp [Lc.all]
theorem nd_of (h : c.all.Nodup) : (c.p ≠ c.ln ∧ c.p ≠ c.ll ∧ c.p ≠ c.lf ∧ c.p ≠ c.fr ∧ c.p ≠ c.th) ∧ (c.ln ≠ c.ll ∧ c.ln ≠ c.lf ∧ c.ln ≠ c.fr ∧ c.ln ≠ c.th) ∧ (c.ll ≠ c.lf ∧ c.ll ≠ c.fr ∧ c.ll ≠ c.th) ∧ (c.lf ≠ c.fr ∧ c.lf ≠ c.th) ∧ c.fr ≠ c.th := by
  simpa [Lc.all] using h
theorem RS.of (P : RS c row as u st ov pl A T L s) (k : ∀ j, j ∈ c.all → s'[j]? = s[j]?) : RS c row as u st ov pl A T L s' :=
  ⟨(k _ in_p).trans P.i, (k _ in_lf).trans P.f, ⟨(k _ (by simp [Lc.all])).trans P.g.i, (k _ in_th).trans P.g.d, P.g.ne⟩, (k _ in_ln).trans P.n, (k _ in_ll).trans P.l, P.nd⟩
theorem RS.lt (P : RS c row as u st ov pl A T L s) {j : Nat} (h : j ∈ c.all) : j < s.length := by
  simp [Lc.all] at h
  rcases h with rfl | rfl | rfl | rfl | rfl | rfl
  · exact lt_of_at P.i
  · exact lt_of_at P.n
  · exact lt_of_at P.l
  · exact lt_of_at P.f
  · exact lt_of_at P.g.i
  · exact lt_of_at P.g.d
theorem RS.fz (P : RS c row as u st ov pl A T L s) (f : Fz s s') : RS c row as u st ov pl A T L s' := P.of fun j hj => f.2 j (P.lt hj)
theorem RS.trim {n : Nat} {k : Cl} (P : RS c row as u st ov pl A T L s) (h : ∀ j ∈ c.all, j < n) : RS c row as u st ov pl A T L (trim n k s) := P.of fun j hj => trim_get (h j hj)
theorem RS.things {B : Th} (P : RS c row as u st ov pl A T L s) : RS c row as u st ov pl B T L (s.set c.th (.dk (kvE B))) := by
  obtain ⟨⟨a1, a2, a3, a4, a5⟩, ⟨b1, b2, b3, b4⟩, ⟨c1, c2, c3⟩, ⟨d1, d2⟩, e1⟩ := nd_of P.nd
  exact ⟨(set_other a5).trans P.i, (set_other d2).trans P.f, P.g.put, (set_other b4).trans P.n, (set_other c3).trans P.l, P.nd⟩
theorem RS.run {u' : Nat} {st' : Int} {ov' pl' : D} (P : RS c row as u st ov pl A T L s) : RS c row as u' st' ov' pl' A T L (s.set c.p (.ins "Run" (rfs (wholeD row) (.tuple (as.map PyData.int)) u' st' c.ln c.ll c.lf ov' pl'))) := by
  obtain ⟨⟨a1, a2, a3, a4, a5⟩, ⟨b1, b2, b3, b4⟩, ⟨c1, c2, c3⟩, ⟨d1, d2⟩, e1⟩ := nd_of P.nd
  exact ⟨set_same (P.lt in_p), (set_other (Ne.symm a3)).trans P.f, ⟨(set_other (Ne.symm a4)).trans P.g.i, (set_other (Ne.symm a5)).trans P.g.d, P.g.ne⟩, (set_other (Ne.symm a1)).trans P.n, (set_other (Ne.symm a2)).trans P.l, P.nd⟩
theorem RS.nums {T' : List Int} (P : RS c row as u st ov pl A T L s) : RS c row as u st ov pl A T' L (s.set c.ln (.lst ((T'.map PyData.int).map Cl.sh))) := by
  obtain ⟨⟨a1, a2, a3, a4, a5⟩, ⟨b1, b2, b3, b4⟩, ⟨c1, c2, c3⟩, ⟨d1, d2⟩, e1⟩ := nd_of P.nd
  exact ⟨(set_other a1).trans P.i, (set_other (Ne.symm b2)).trans P.f, ⟨(set_other (Ne.symm b3)).trans P.g.i, (set_other (Ne.symm b4)).trans P.g.d, P.g.ne⟩, set_same (P.lt in_ln), (set_other (Ne.symm b1)).trans P.l, P.nd⟩
theorem RS.lefts {L' : List D} (P : RS c row as u st ov pl A T L s) : RS c row as u st ov pl A T L' (s.set c.ll (.lst (L'.map Cl.sh))) := by
  obtain ⟨⟨a1, a2, a3, a4, a5⟩, ⟨b1, b2, b3, b4⟩, ⟨c1, c2, c3⟩, ⟨d1, d2⟩, e1⟩ := nd_of P.nd
  exact ⟨(set_other a2).trans P.i, (set_other (Ne.symm c1)).trans P.f, ⟨(set_other (Ne.symm c2)).trans P.g.i, (set_other (Ne.symm c3)).trans P.g.d, P.g.ne⟩, (set_other b1).trans P.n, set_same (P.lt in_ll), P.nd⟩
theorem put_used {w g : D} {i st : Int} {ln ll lf : Nat} {ov pl : D} {x : Int} : putFC "used" (.sh (.int x)) (rfs w g i st ln ll lf ov pl) = rfs w g x st ln ll lf ov pl := rfl
theorem put_steps {w g : D} {i st : Int} {ln ll lf : Nat} {ov pl : D} {x : Int} : putFC "steps" (.sh (.int x)) (rfs w g i st ln ll lf ov pl) = rfs w g i x ln ll lf ov pl := rfl
theorem put_over {w g : D} {i st : Int} {ln ll lf : Nat} {ov pl : D} {x : D} : putFC "over_by" (.sh x) (rfs w g i st ln ll lf ov pl) = rfs w g i st ln ll lf x pl := rfl
theorem put_place {w g : D} {i st : Int} {ln ll lf : Nat} {ov pl : D} {x : D} : putFC "place" (.sh x) (rfs w g i st ln ll lf ov pl) = rfs w g i st ln ll lf ov x := rfl
end
theorem trim_keep {n j : Nat} {c : Cl} {s : St} {o : Ob} (h : s[j]? = some o) (hj : j < n) (hb : Ob.below n o = false) : trim n c s = s := by
  unfold trim
  rw [if_neg]
  intro z
  have z := (Bool.and_eq_true _ _ ▸ z : _ ∧ _).2
  have m : o ∈ s.take n := List.mem_of_getElem? (i := j) (by rw [List.getElem?_take_of_lt hj]; exact h)
  have := List.all_eq_true.mp z o m
  rw [hb] at this
  cases this
end Ds.K10
namespace Ds.K10
open PySem PySem.Spec PyProof.Rows L2 Dn TL
section
variable {c : Lc} {row : List Wd} {as : List Int} {u : Nat} {st : Int} {ov pl : D} {A : Th} {T : List Int} {L : List D} {s : St} {Q : Cl → St → Prop} {Ws Bs : List Str} {m : Nat}
theorem finit_ {at_ : D} (q : ∀ s', Fz s s' → Fo s.length (s.length + 1) at_ [] s' → s'.length = s.length + 2 → Q (.sh .none) s') : FRun f_Frame___init__ [.lo s.length, .sh at_] (s ++ [.ins "Frame" []]) Q := by
  refine frun_fn rfl ?_
  unfold m_Frame___init__
  repeat walk_at "ds"
  refine ⟨_, app_new, by decide, ?_⟩
  repeat walk_at "ds"
  have h1 : ((s ++ [Ob.ins "Frame" []]).set s.length (.ins "Frame" (putFC "called_at" (.sh at_) [])) ++ [Ob.dk []])[s.length]? = some (.ins "Frame" (putFC "called_at" (.sh at_) [])) := by
    rw [app_old (by simp), set_same (by simp)]
  refine ⟨_, h1, by show 1 < 1000; decide, ?_⟩
  have hl : ((s ++ [Ob.ins "Frame" []]).set s.length (.ins "Frame" (putFC "called_at" (.sh at_) []))).length = s.length + 1 := by simp
  rw [hl]
  have ef : putFC "things" (.lo (s.length + 1)) (putFC "called_at" (.sh at_) []) = ffs at_ (s.length + 1) := rfl
  rw [ef]
  repeat walk_at "ds"
  have hi : (((s ++ [Ob.ins "Frame" []]).set s.length (.ins "Frame" (putFC "called_at" (.sh at_) [])) ++ [Ob.dk []]).set s.length (.ins "Frame" (ffs at_ (s.length + 1))))[s.length]? = some (.ins "Frame" (ffs at_ (s.length + 1))) := set_same (by simp)
  rw [trim_keep hi (by simp) (by simp [Ob.below, ffs, Cl.below])]
  refine q _ ⟨by simp, fun j hj => ?_⟩ ⟨hi, ?_, by omega⟩ (by simp)
  · rw [set_other (by omega), app_old (by simp; omega), set_other (by omega), app_old hj]
  · rw [set_other (by omega)]
    have : ((s ++ [Ob.ins "Frame" []]).set s.length (.ins "Frame" (putFC "called_at" (.sh at_) [])) ++ [Ob.dk []])[((s ++ [Ob.ins "Frame" []]).set s.length (.ins "Frame" (putFC "called_at" (.sh at_) []))).length]? = some (.dk []) := app_new
    rw [hl] at this
    exact this
theorem answer_ {a n : Int} (P : RS c row as u st ov pl A T L s) (ha : as[u]? = some a) (h1 : 0 ≤ a) (h2 : a < n) (q : ∀ s', RS c row as (u + 1) st ov pl A T L s' → Fq c s s' → Q (.sh (.int a)) s') : FRun f_Run_answer [.lo c.p, .sh (.int n)] s Q := by
  have hlt := (List.getElem?_eq_some_iff.mp ha).1
  refine frun_fn rfl ?_
  unfold m_Run_answer
  repeat walk_at "ds"
  refine ⟨_, _, P.i, rfl, ?_⟩
  repeat walk_at "ds"
  refine ⟨_, _, P.i, rfl, ?_⟩
  repeat walk_at "ds"
  refine bx_ix_tup (d := .int a) ?_ ?_
  · unfold atI ixN
    rw [List.length_map, if_pos (by omega), if_pos (by omega)]
    simp [ha]
  repeat walk_at "ds"
  refine is_answer_ h1 h2 ?_
  repeat walk_at "ds"
  refine ⟨_, _, P.i, by show 9 < 1000; decide, rfl, ?_⟩
  rw [put_used]
  have eu : ((u : Int) + 1) = ((u + 1 : Nat) : Int) := by omega
  rw [eu]
  repeat walk_at "ds"
  rw [trim_len (by simp)]
  exact q _ P.run (Fq.refl.set in_p)
end
end Ds.K10
namespace Ds.K10
open PySem PySem.Spec PyProof.Rows L2 Dn TL
section
variable {c : Lc} {row : List Wd} {as : List Int} {u : Nat} {st : Int} {ov pl : D} {A : Th} {T : List Int} {L : List D} {s : St} {Q : Cl → St → Prop} {Ws Bs : List Str} {m : Nat}
theorem kept_len (hA : A.length ≤ m) : (keptD pl A).length ≤ m := by
  unfold keptD
  rw [List.length_map]
  refine Nat.le_trans (List.length_filter_le _ _) (Nat.le_trans srt_len ?_)
  unfold keysA
  rw [List.length_map]
  exact hA
theorem dropped_ok (hA : ThOk Ws Bs m A) : ∀ {xs : List Str} {M : Th} {n : Nat}, ThOk Ws Bs n M → (∀ x ∈ xs, x ∈ Bs) → ThOk Ws Bs (n + xs.length) (xs.foldl (fun M x => pute M x (look A x)) M)
  | [], M, n, h, _ => h
  | x :: xs, M, n, h, hx => by
    have := dropped_ok hA (xs := xs) (h.pute (hx x List.mem_cons_self) (hA.look x)) fun y hy => hx y (List.mem_cons_of_mem _ hy)
    rw [List.length_cons]
    exact this.up (by omega)
theorem take_clear {n : Str} (P : RS c row as u st ov pl A T L s) (hB : ∀ x ∈ Bs, Bxo x) (hA : ThOk Ws Bs m A) (hm : m ≤ 59) (hn : 46 ∉ tl n) (q : ∀ s', RS c row as u st ov pl (dropAll A ((keysA A).filter fun x => inRec x n)) T L s' → Fq c s s' → Q (.sh .none) s') :
    FRun f_Run_take_away [.lo c.p, .lo c.fr, .sh (.tuple [.str "clear", .str n])] s Q := by
  refine frun_fn rfl ?_
  unfold m_Run_take_away
  repeat walk_at "ds"
  refine ⟨_, _, P.g.i, rfl, ?_⟩
  repeat walk_at "ds"
  refine ⟨_, P.g.d, ?_⟩
  have ek : ((kvE A).map fun kv => keyD kv.1) = (keysA A).map PyData.str := by
    unfold kvE keysA
    rw [List.map_map, List.map_map]
    rfl
  rw [ek]
  refine ⟨_, shL_map _, ?_⟩
  repeat walk_at "ds"
  have hl : (keysA A).length ≤ 59 := by unfold keysA; rw [List.length_map]; exact Nat.le_trans hA.len hm
  refine ⟨by rw [List.length_map]; exact line_of (by omega), ?_⟩
  refine run_compR _ (fun rem ys e s' => s' = s ∧ e = [.lo c.p, .lo c.fr, .sh (.tuple [.str "clear", .str n]), .sh (.list [.str n]), .no, .no] ∧ ∃ B C : List Str, keysA A = B ++ C ∧ rem = C.map PyData.str ∧ ys = (B.filter fun x => inRec x n).map PyData.str) ⟨rfl, rfl, [], keysA A, rfl, rfl, rfl⟩ (fun d rem ys e s' hJ => ?_) fun ys e s' hJ => ?_
  · obtain ⟨rfl, rfl, B, C, hks, hr, rfl⟩ := hJ
    cases C with
    | nil => cases hr
    | cons x C =>
      rw [List.map_cons] at hr
      injection hr with hr1 hr2
      subst hr1
      subst hr2
      have hx : x ∈ keysA A := by rw [hks]; simp
      obtain ⟨p, hp, rfl⟩ := List.mem_map.mp hx
      refine ⟨_, rfl, ?_⟩
      repeat walk_at "ds"
      refine in_record_ (hB _ (hA.ok p hp).1) hn ?_
      repeat walk_at "ds"
      refine ⟨fun hb => ?_, fun hb => ?_⟩
      · repeat walk_at "ds"
        exact ⟨rfl, rfl, B ++ [p.1], C, by rw [hks]; simp, rfl, by rw [List.filter_append, List.map_append]; simp [hb]⟩
      · repeat walk_at "ds"
        exact ⟨rfl, rfl, B ++ [p.1], C, by rw [hks]; simp, rfl, by rw [List.filter_append, List.map_append]; simp [hb]⟩
  · obtain ⟨rfl, rfl, B, C, hks, hr, rfl⟩ := hJ
    have hC : C = [] := by cases C with
      | nil => rfl
      | cons _ _ => cases hr
    subst hC
    rw [List.append_nil] at hks
    rw [← hks]
    refine ⟨_, shL_map _, ?_⟩
    repeat walk_at "ds"
    refine ⟨_, P.g.i, rfl, ?_⟩
    repeat walk_at "ds"
    refine empty_ P.g ?_
    repeat walk_at "ds"
    rw [trim_len (by simp)]
    exact q _ P.things (Fq.refl.set in_th)
theorem take_wipe {x : Str} (P : RS c row as u st ov pl A T L s) (q : ∀ s', RS c row as u st ov pl (dropAll A [x]) T L s' → Fq c s s' → Q (.sh .none) s') :
    FRun f_Run_take_away [.lo c.p, .lo c.fr, .sh (.tuple [.str "wipe", .str x])] s Q := by
  refine frun_fn rfl ?_
  unfold m_Run_take_away
  repeat walk_at "ds"
  refine ⟨_, P.g.i, rfl, ?_⟩
  repeat walk_at "ds"
  refine empty_ (xs := [x]) P.g ?_
  repeat walk_at "ds"
  rw [trim_len (by simp)]
  exact q _ P.things (Fq.refl.set in_th)
theorem take_drop {xs : List Str} (P : RS c row as u st ov pl A T L s) (hW : ∀ w ∈ Ws, Ok 10 w) (hA : ThOk Ws Bs m A) (hx : ∀ x ∈ xs, x ∈ Bs) (hl : xs.length ≤ 10) (hL : L.length ≤ 10000) (q : ∀ s', RS c row as u st ov pl (dropAll A xs) T (L ++ keptD pl (dropped A xs)) s' → Fq c s s' → Q (.sh .none) s') :
    FRun f_Run_take_away [.lo c.p, .lo c.fr, .sh (.tuple [.str "drop", .tuple (xs.map PyData.str)])] s Q := by
  refine frun_fn rfl ?_
  unfold m_Run_take_away
  repeat walk_at "ds"
  refine finit_ fun s1 F1 G1 L1 => ?_
  refine ⟨rfl, ?_⟩
  repeat walk_at "ds"
  have P1 := P.fz F1
  refine run_forR _ (fun rem e s' => ∃ (B C : List Str) (z : Cl), xs = B ++ C ∧ rem = C.map PyData.str ∧ Fz s s' ∧ Fo s.length (s.length + 1) .none (dropped A B) s' ∧ ThOk Ws Bs B.length (dropped A B) ∧ s'.length = s.length + 2 ∧ e = [.lo c.p, .lo c.fr, .sh (.tuple [.str "drop", .tuple (xs.map PyData.str)]), .sh (.list (xs.map PyData.str)), .lo s.length, z]) ⟨[], xs, _, rfl, rfl, F1, G1, .nil, L1, rfl⟩ (fun d rem e s' hI => ?_) fun e s' hI => ?_
  · obtain ⟨B, C, z, hxs, hr, F2, G2, O2, L2, rfl⟩ := hI
    cases C with
    | nil => cases hr
    | cons x C =>
      rw [List.map_cons] at hr
      injection hr with hr1 hr2
      subst hr1
      subst hr2
      have hBl : B.length ≤ 10 := by rw [hxs] at hl; simp at hl; omega
      have P2 := P.fz F2
      have w := hA.look x
      refine ⟨_, rfl, ?_⟩
      repeat walk_at "ds"
      refine ⟨_, G2.i, rfl, ?_⟩
      repeat walk_at "ds"
      refine ⟨_, P2.g.i, rfl, ?_⟩
      repeat walk_at "ds"
      refine look_ P2.g ?_
      repeat walk_at "ds"
      refine put_ (k := 10) G2 (Nat.le_trans O2.len (by omega)) (fun y hy => hW y (w.mem y hy)) ?_
      repeat walk_at "ds"
      have e1 : dropped A (B ++ [x]) = pute (dropped A B) x (look A x) := by unfold dropped; rw [List.foldl_append]; rfl
      refine ⟨B ++ [x], C, _, by rw [hxs]; simp, rfl, F2.put (by omega), by rw [e1]; exact G2.put, ?_, by simpa using L2, rfl⟩
      rw [e1, List.length_append]
      exact O2.pute (hx x (by rw [hxs]; simp)) w
  · obtain ⟨B, C, z, hxs, hr, F2, G2, O2, L2, rfl⟩ := hI
    have hC : C = [] := by cases C with
      | nil => rfl
      | cons _ _ => cases hr
    subst hC
    rw [List.append_nil] at hxs
    subst hxs
    have P2 := P.fz F2
    repeat walk_at "ds"
    refine ⟨_, _, P2.i, rfl, ?_⟩
    repeat walk_at "ds"
    refine ⟨_, P2.l, ?_⟩
    repeat walk_at "ds"
    refine ⟨_, G2.i, rfl, ?_⟩
    repeat walk_at "ds"
    refine ⟨_, _, P2.i, rfl, ?_⟩
    repeat walk_at "ds"
    refine kept_ G2 O2 (by omega) hW ?_
    repeat walk_at "ds"
    have kl : (keptD pl (dropped A xs)).length ≤ 10 := Nat.le_trans (kept_len O2.len) hl
    refine ⟨_, _, _, P2.l, rfl, rfl, line_of (by rw [List.length_map]; omega), ?_⟩
    rw [← List.map_append]
    have P3 := P2.lefts (L' := L ++ keptD pl (dropped A xs))
    repeat walk_at "ds"
    refine ⟨_, P3.g.i, rfl, ?_⟩
    repeat walk_at "ds"
    refine empty_ P3.g ?_
    repeat walk_at "ds"
    have F3 : Fq c s s' := Fq.refl.fz F2
    exact q _ (P3.things.trim fun j hj => P.lt hj) ((F3.set in_ll).set in_th).trim
end
end Ds.K10
namespace Ds.K10
open PySem PySem.Spec PyProof.Rows L2 Dn TL
def nmW : Wd → Str
  | .take _ _ => "take"
  | .ask _ => "ask"
  | .number _ _ => "number"
  | .copy _ _ => "copy"
  | .mix _ _ _ => "mix"
  | .opn _ _ => "open"
  | .tell _ => "tell"
  | .wipe _ => "wipe"
  | .clear _ => "clear"
  | .drop _ => "drop"
theorem ix0 (w : Wd) : dIx (encW w) (.int 0) = some (.str (nmW w)) := by cases w <;> rfl
theorem nm_risk : ∀ (w : Wd), ¬ nmW w = "risk"
  | .take _ _ => (by decide : ¬ ("take" : Str) = "risk")
  | .ask _ => (by decide : ¬ ("ask" : Str) = "risk")
  | .number _ _ => (by decide : ¬ ("number" : Str) = "risk")
  | .copy _ _ => (by decide : ¬ ("copy" : Str) = "risk")
  | .mix _ _ _ => (by decide : ¬ ("mix" : Str) = "risk")
  | .opn _ _ => (by decide : ¬ ("open" : Str) = "risk")
  | .tell _ => (by decide : ¬ ("tell" : Str) = "risk")
  | .wipe _ => (by decide : ¬ ("wipe" : Str) = "risk")
  | .clear _ => (by decide : ¬ ("clear" : Str) = "risk")
  | .drop _ => (by decide : ¬ ("drop" : Str) = "risk")
def leads : List Str := ["choose", "loop", "out", "call", "fault", "risk", "back"]
theorem nm_lead : ∀ (w : Wd) (z : Str), z ∈ leads → ¬ nmW w = z
  | .take _ _ => (by decide : ∀ z ∈ leads, ¬ ("take" : Str) = z)
  | .ask _ => (by decide : ∀ z ∈ leads, ¬ ("ask" : Str) = z)
  | .number _ _ => (by decide : ∀ z ∈ leads, ¬ ("number" : Str) = z)
  | .copy _ _ => (by decide : ∀ z ∈ leads, ¬ ("copy" : Str) = z)
  | .mix _ _ _ => (by decide : ∀ z ∈ leads, ¬ ("mix" : Str) = z)
  | .opn _ _ => (by decide : ∀ z ∈ leads, ¬ ("open" : Str) = z)
  | .tell _ => (by decide : ∀ z ∈ leads, ¬ ("tell" : Str) = z)
  | .wipe _ => (by decide : ∀ z ∈ leads, ¬ ("wipe" : Str) = z)
  | .clear _ => (by decide : ∀ z ∈ leads, ¬ ("clear" : Str) = z)
  | .drop _ => (by decide : ∀ z ∈ leads, ¬ ("drop" : Str) = z)
end Ds.K10
namespace Ds.K10
open PySem PySem.Spec PyProof.Rows L2 Dn TL
section
variable {c : Lc} {row : List Wd} {as : List Int} {u : Nat} {st : Int} {ov pl : D} {A : Th} {T : List Int} {L : List D} {s : St} {Q : Cl → St → Prop} {Ws Bs : List Str} {m : Nat}
def usedP (u : Nat) (w : Wd) : Nat := if wants w = true then u + 1 else u
theorem change_ {w : Wd} {a : Int} (P : RS c row as u st ov pl A T L s) (hW : ∀ w ∈ Ws, Ok 10 w) (hWl : Ws.length ≤ 6) (hB : ∀ x ∈ Bs, Bxo x) (hA : ThOk Ws Bs m A) (hm : m ≤ 59) (hT : T.length ≤ 1000) (hL : L.length ≤ 10000) (hw : WdOk Ws Bs w) (ha : wants w = true → as[u]? = some a ∧ 0 ≤ a ∧ a < 10000)
    (q : ∀ s', RS c row as (usedP u w) st ov pl (stepP a A w) (T ++ tellP A w) (L ++ leftP pl A w) s' → Fq c s s' → Q (.sh .none) s') : FRun f_Run_change [.lo c.p, .sh (encW w)] s Q := by
  have hA1 : A.length ≤ 1000 := Nat.le_trans hA.len (by omega)
  have ix : ∀ (s : St), s[c.lf]? = some (.lst [.lo c.fr]) → ixC s (.lo c.lf) (.int (-1)) = some (.lo c.fr) := fun s h => ixC_lo h rfl
  have lk : ∀ x, ∀ w ∈ (look A x).2, Ok 10 w := fun x w hw => hW w ((hA.look x).mem w hw)
  have ll : ∀ x, (look A x).2.length ≤ 6 := fun x => Nat.le_trans (hA.look x).len hWl
  have q0 : tellP A w = [] → leftP pl A w = [] → ∀ s', RS c row as (usedP u w) st ov pl (stepP a A w) T L s' → Fq c s s' → Q (.sh .none) s' := fun e1 e2 s' P' F' => q s' (by rw [e1, e2, List.append_nil, List.append_nil]; exact P') F'
  have qT : leftP pl A w = [] → ∀ s', RS c row as (usedP u w) st ov pl (stepP a A w) (T ++ tellP A w) L s' → Fq c s s' → Q (.sh .none) s' := fun e2 s' P' F' => q s' (by rw [e2, List.append_nil]; exact P') F'
  have qL : tellP A w = [] → ∀ s', RS c row as (usedP u w) st ov pl (stepP a A w) T (L ++ leftP pl A w) s' → Fq c s s' → Q (.sh .none) s' := fun e1 s' P' F' => q s' (by rw [e1, List.append_nil]; exact P') F'
  refine frun_fn rfl ?_
  unfold m_Run_change
  repeat walk_at "ds"
  refine ⟨_, _, P.i, rfl, ?_⟩
  repeat walk_at "ds"
  refine ⟨_, ix _ P.f, ?_⟩
  cases w with
  | take x w =>
    obtain ⟨h1, h2, h3⟩ := ha rfl
    repeat walk_at "ds"
    refine ⟨_, P.g.i, rfl, ?_⟩
    repeat walk_at "ds"
    refine ⟨_, P.i, rfl, ?_⟩
    repeat walk_at "ds"
    refine answer_ P h1 h2 h3 fun s1 P1 F1 => ?_
    repeat walk_at "ds"
    refine put_ (k := 10) (v := (a, [w])) P1.g hA1 (fun y hy => by simp at hy; subst hy; exact hW _ hw.2) ?_
    repeat walk_at "ds"
    exact q0 rfl rfl _ (P1.things.trim fun j hj => P.lt hj) (F1.set in_th).trim
  | ask x =>
    obtain ⟨h1, h2, h3⟩ := ha rfl
    repeat walk_at "ds"
    refine ⟨_, P.g.i, rfl, ?_⟩
    repeat walk_at "ds"
    refine ⟨_, P.i, rfl, ?_⟩
    repeat walk_at "ds"
    refine answer_ P h1 h2 h3 fun s1 P1 F1 => ?_
    repeat walk_at "ds"
    refine put_ (k := 10) (v := (a, [])) P1.g hA1 (fun y hy => by simp at hy) ?_
    repeat walk_at "ds"
    exact q0 rfl rfl _ (P1.things.trim fun j hj => P.lt hj) (F1.set in_th).trim
  | number x n =>
    repeat walk_at "ds"
    refine ⟨_, P.g.i, rfl, ?_⟩
    repeat walk_at "ds"
    refine put_ (k := 10) (v := (n, [])) P.g hA1 (fun y hy => by simp at hy) ?_
    repeat walk_at "ds"
    exact q0 rfl rfl _ (P.things.trim fun j hj => P.lt hj) (Fq.refl.set in_th).trim
  | copy x y =>
    repeat walk_at "ds"
    refine ⟨_, P.g.i, rfl, ?_⟩
    repeat walk_at "ds"
    refine ⟨_, P.g.i, rfl, ?_⟩
    repeat walk_at "ds"
    refine look_ P.g ?_
    repeat walk_at "ds"
    refine put_ (k := 10) P.g hA1 (lk y) ?_
    repeat walk_at "ds"
    exact q0 rfl rfl _ (P.things.trim fun j hj => P.lt hj) (Fq.refl.set in_th).trim
  | mix x y z =>
    repeat walk_at "ds"
    refine ⟨_, P.g.i, rfl, ?_⟩
    repeat walk_at "ds"
    refine look_ P.g ?_
    repeat walk_at "ds"
    refine ⟨_, P.g.i, rfl, ?_⟩
    repeat walk_at "ds"
    refine look_ P.g ?_
    repeat walk_at "ds"
    refine ⟨_, P.g.i, rfl, ?_⟩
    repeat walk_at "ds"
    refine both_ (by have := ll y; have := ll z; omega) ?_
    repeat walk_at "ds"
    refine put_ (k := 10) (v := (((look A y).1 + 2 * (look A z).1) % 10007, srt ((look A y).2 ++ (look A z).2))) P.g hA1 (fun w hw => ?_) ?_
    · rcases List.mem_append.mp (srt_mem.mp hw) with k | k
      · exact lk y w k
      · exact lk z w k
    repeat walk_at "ds"
    exact q0 rfl rfl _ (P.things.trim fun j hj => P.lt hj) (Fq.refl.set in_th).trim
  | opn x y =>
    repeat walk_at "ds"
    refine ⟨_, P.g.i, rfl, ?_⟩
    repeat walk_at "ds"
    refine ⟨_, P.g.i, rfl, ?_⟩
    repeat walk_at "ds"
    refine look_ P.g ?_
    repeat walk_at "ds"
    refine put_ (k := 10) (v := ((look A y).1 % 2, [])) P.g hA1 (fun y hy => by simp at hy) ?_
    repeat walk_at "ds"
    exact q0 rfl rfl _ (P.things.trim fun j hj => P.lt hj) (Fq.refl.set in_th).trim
  | tell x =>
    repeat walk_at "ds"
    refine ⟨_, _, P.i, rfl, ?_⟩
    repeat walk_at "ds"
    refine ⟨_, P.n, ?_⟩
    repeat walk_at "ds"
    refine ⟨_, P.g.i, rfl, ?_⟩
    repeat walk_at "ds"
    refine look_ P.g ?_
    repeat walk_at "ds"
    refine ⟨_, P.n, by rw [List.length_map, List.length_map]; exact Nat.lt_of_le_of_lt hT (by decide), ?_⟩
    have e : (T.map PyData.int).map Cl.sh ++ [Cl.sh (.int (look A x).1)] = ((T ++ [(look A x).1]).map PyData.int).map Cl.sh := by simp
    rw [e]
    repeat walk_at "ds"
    exact qT rfl _ (P.nums.trim fun j hj => P.lt hj) (Fq.refl.set in_ln).trim
  | wipe x =>
    repeat walk_at "ds"
    refine ⟨_, P.i, rfl, ?_⟩
    repeat walk_at "ds"
    refine take_wipe P fun s1 P1 F1 => ?_
    repeat walk_at "ds"
    exact q0 rfl rfl _ (P1.trim fun j hj => P.lt hj) F1.trim
  | clear n =>
    repeat walk_at "ds"
    refine ⟨_, P.i, rfl, ?_⟩
    repeat walk_at "ds"
    refine take_clear P hB hA hm hw.2 fun s1 P1 F1 => ?_
    repeat walk_at "ds"
    exact q0 rfl rfl _ (P1.trim fun j hj => P.lt hj) F1.trim
  | drop xs =>
    repeat walk_at "ds"
    refine ⟨_, P.i, rfl, ?_⟩
    repeat walk_at "ds"
    refine take_drop P hW hA hw.1 hw.2 hL fun s1 P1 F1 => ?_
    repeat walk_at "ds"
    exact qL rfl _ (P1.trim fun j hj => P.lt hj) F1.trim
theorem lead_ {w : Wd} (q : Q (.sh (.bool false)) s) : FRun f_Run_lead [.lo c.p, .sh (encW w)] s Q := by
  refine frun_fn rfl ?_
  unfold m_Run_lead
  repeat walk_at "ds"
  refine ⟨_, ix0 w, ?_⟩
  repeat walk_at "ds"
  refine two_dec (fun h => absurd h (nm_lead w _ (by simp [leads]))) (fun _ => ?_)
  repeat walk_at "ds"
  refine ⟨_, ix0 w, ?_⟩
  repeat walk_at "ds"
  refine two_dec (fun h => absurd h (nm_lead w _ (by simp [leads]))) (fun _ => ?_)
  repeat walk_at "ds"
  refine ⟨_, ix0 w, ?_⟩
  repeat walk_at "ds"
  refine two_dec (fun h => absurd h (nm_lead w _ (by simp [leads]))) (fun _ => ?_)
  repeat walk_at "ds"
  refine ⟨_, ix0 w, ?_⟩
  repeat walk_at "ds"
  refine two_dec (fun h => absurd h (nm_lead w _ (by simp [leads]))) (fun _ => ?_)
  repeat walk_at "ds"
  refine ⟨_, ix0 w, ?_⟩
  repeat walk_at "ds"
  refine two_dec (fun h => absurd h (nm_lead w _ (by simp [leads]))) (fun _ => ?_)
  repeat walk_at "ds"
  refine ⟨_, ix0 w, ?_⟩
  repeat walk_at "ds"
  refine two_dec (fun h => absurd h (nm_lead w _ (by simp [leads]))) (fun _ => ?_)
  repeat walk_at "ds"
  refine ⟨_, ix0 w, ?_⟩
  repeat walk_at "ds"
  refine two_dec (fun h => absurd h (nm_lead w _ (by simp [leads]))) (fun _ => ?_)
  repeat walk_at "ds"
  rw [trim_len rfl]
  exact q
theorem enc_not (w : Wd) : isN (encW w) = false := by cases w <;> rfl
theorem wants_no {k : Nat} {w : Wd} (P : RS c row as u st ov (plD k) A T L s) (hk : row[k]? = some w) (hu : wants w = true → u < as.length) (q : ∀ s', Fz s s' → Q (.sh (.bool false)) s') : FRun f_Run_wants [.lo c.p] s Q := by
  have hlt := (List.getElem?_eq_some_iff.mp hk).1
  have ew : wAt row k = encW w := by unfold wAt; rw [hk]
  refine frun_fn rfl ?_
  unfold m_Run_wants
  repeat walk_at "ds"
  refine ⟨_, _, P.i, rfl, ?_⟩
  repeat walk_at "ds"
  refine ⟨_, _, P.i, rfl, ?_⟩
  repeat walk_at "ds"
  refine word_at_ (Nat.le_of_lt hlt) fun s1 F1 => ?_
  rw [ew]
  have P1 := P.fz F1
  cases w with
  | take x w =>
    have hu := hu rfl
    repeat walk_at "ds"
    refine ⟨_, _, P1.i, rfl, ?_⟩
    repeat walk_at "ds"
    refine ⟨_, _, P1.i, rfl, ?_⟩
    repeat walk_at "ds"
    have e : decide ((u : Int) = ((as.map PyData.int).length : Int)) = false := decide_eq_false (by rw [List.length_map]; omega)
    rw [e]
    repeat walk_at "ds"
    exact q _ F1.trim
  | ask x =>
    have hu := hu rfl
    repeat walk_at "ds"
    refine ⟨_, _, P1.i, rfl, ?_⟩
    repeat walk_at "ds"
    refine ⟨_, _, P1.i, rfl, ?_⟩
    repeat walk_at "ds"
    have e : decide ((u : Int) = ((as.map PyData.int).length : Int)) = false := decide_eq_false (by rw [List.length_map]; omega)
    rw [e]
    repeat walk_at "ds"
    exact q _ F1.trim
  | _ =>
    repeat walk_at "ds"
    exact q _ F1.trim
/-- to a word -/
theorem come_word {k : Nat} {w : Wd} (P : RS c row as u st .none pl A T L s) (hk : row[k]? = some w) (q : ∀ s', RS c row as u st .none (plD k) A T L s' → Fq c s s' → Q (.sh .none) s') : FRun f_Run_come_to [.lo c.p, .sh (plD k)] s Q := by
  have hlt := (List.getElem?_eq_some_iff.mp hk).1
  have ew : wAt row k = encW w := by unfold wAt; rw [hk]
  refine frun_fn rfl ?_
  unfold m_Run_come_to
  repeat walk_at "ds"
  refine ⟨_, P.i, by show 9 < 1000; decide, ?_⟩
  rw [put_place]
  have P1 := P.run (u' := u) (st' := st) (ov' := .none) (pl' := plD k)
  repeat walk_at "ds"
  refine run_while (fun _ e s' => s' = s.set c.p (.ins "Run" (rfs (wholeD row) (.tuple (as.map PyData.int)) u st c.ln c.ll c.lf .none (plD k))) ∧ e = [.lo c.p, .sh (plD k)]) 1 (by decide) ⟨rfl, rfl⟩ fun n e s' hI => ?_
  obtain ⟨rfl, rfl⟩ := hI
  repeat walk_at "ds"
  refine ⟨_, _, P1.i, rfl, ?_⟩
  repeat walk_at "ds"
  refine ⟨_, _, P1.i, rfl, ?_⟩
  repeat walk_at "ds"
  refine ⟨_, _, P1.i, rfl, ?_⟩
  repeat walk_at "ds"
  refine word_at_ (Nat.le_of_lt hlt) fun s2 F2 => ?_
  rw [ew]
  repeat walk_at "ds"
  rw [enc_not]
  repeat walk_at "ds"
  exact q _ ((P1.fz F2).trim fun j hj => P.lt hj) ((Fq.refl.set in_p).fz F2).trim
/-- to the end of the row: all is over -/
theorem come_end (P : RS c row as u st .none pl A T L s) (hW : ∀ w ∈ Ws, Ok 10 w) (hA : ThOk Ws Bs m A) (hm : m ≤ 59) (hL : L.length ≤ 10000) (q : ∀ s', RF c row as u st (.tuple [.str "ended"]) (plD row.length) T (L ++ keptD (plD row.length) A) s' → Fq c s s' → Q (.sh .none) s') : FRun f_Run_come_to [.lo c.p, .sh (plD row.length)] s Q := by
  have ew : wAt row row.length = .none := by unfold wAt; rw [List.getElem?_eq_none (Nat.le_refl _)]
  refine frun_fn rfl ?_
  unfold m_Run_come_to
  repeat walk_at "ds"
  refine ⟨_, P.i, by show 9 < 1000; decide, ?_⟩
  rw [put_place]
  have P1 := P.run (u' := u) (st' := st) (ov' := .none) (pl' := plD row.length)
  have F1 : Fq c s (s.set c.p (.ins "Run" (rfs (wholeD row) (.tuple (as.map PyData.int)) u st c.ln c.ll c.lf .none (plD row.length)))) := Fq.refl.set in_p
  repeat walk_at "ds"
  refine run_while (fun n e s' => (n = 1 ∧ s' = s.set c.p (.ins "Run" (rfs (wholeD row) (.tuple (as.map PyData.int)) u st c.ln c.ll c.lf .none (plD row.length))) ∧ e = [.lo c.p, .sh (plD row.length)]) ∨ (n = 0 ∧ RF c row as u st (.tuple [.str "ended"]) (plD row.length) T (L ++ keptD (plD row.length) A) s' ∧ Fq c s s' ∧ e = [.lo c.p, .sh (plD row.length)])) 1 (by decide) (.inl ⟨rfl, rfl, rfl⟩) fun n e s' hI => ?_
  rcases hI with ⟨rfl, rfl, rfl⟩ | ⟨rfl, R, F, rfl⟩
  · repeat walk_at "ds"
    refine ⟨_, _, P1.i, rfl, ?_⟩
    repeat walk_at "ds"
    refine ⟨_, _, P1.i, rfl, ?_⟩
    repeat walk_at "ds"
    refine ⟨_, _, P1.i, rfl, ?_⟩
    repeat walk_at "ds"
    refine word_at_ (Nat.le_refl _) fun s2 F2 => ?_
    rw [ew]
    have P2 := P1.fz F2
    have Fs := F1.fz F2
    repeat walk_at "ds"
    refine ⟨_, P2.i, rfl, ?_⟩
    repeat walk_at "ds"
    refine frun_fn rfl ?_
    unfold m_Run_go_back
    repeat walk_at "ds"
    refine ⟨_, _, P2.i, rfl, ?_⟩
    repeat walk_at "ds"
    refine ⟨_, _, P2.f, rfl, ?_⟩
    obtain ⟨⟨a1, a2, a3, a4, a5⟩, ⟨b1, b2, b3, b4⟩, ⟨c1, c2, c3⟩, ⟨d1, d2⟩, e1⟩ := nd_of P.nd
    have hi : (s2.set c.lf (.lst ([Cl.lo c.fr].dropLast)))[c.p]? = some (.ins "Run" (rfs (wholeD row) (.tuple (as.map PyData.int)) u st c.ln c.ll c.lf .none (plD row.length))) := (set_other a3).trans P2.i
    have hf : (s2.set c.lf (.lst ([Cl.lo c.fr].dropLast)))[c.lf]? = some (.lst ([] : List Cl)) := set_same (P2.lt in_lf)
    have hl : (s2.set c.lf (.lst ([Cl.lo c.fr].dropLast)))[c.ll]? = some (.lst (L.map Cl.sh)) := (set_other c1).trans P2.l
    have hn : (s2.set c.lf (.lst ([Cl.lo c.fr].dropLast)))[c.ln]? = some (.lst ((T.map PyData.int).map Cl.sh)) := (set_other b2).trans P2.n
    have hg : Fo c.fr c.th .none A (s2.set c.lf (.lst ([Cl.lo c.fr].dropLast))) := ⟨(set_other (Ne.symm d1)).trans P2.g.i, (set_other (Ne.symm d2)).trans P2.g.d, P2.g.ne⟩
    have F3 : Fq c s (s2.set c.lf (.lst ([Cl.lo c.fr].dropLast))) := Fs.set in_lf
    have l3 : (s2.set c.lf (.lst ([Cl.lo c.fr].dropLast))).length = s2.length := by simp
    generalize s2.set c.lf (.lst ([Cl.lo c.fr].dropLast)) = s3 at hi hf hl hn hg F3 l3 ⊢
    repeat walk_at "ds"
    refine ⟨_, _, hi, rfl, ?_⟩
    repeat walk_at "ds"
    refine ⟨_, _, snap_list (ds := []) hf, rfl, ?_⟩
    repeat walk_at "ds"
    refine ⟨_, _, hi, rfl, ?_⟩
    repeat walk_at "ds"
    refine ⟨_, hl, ?_⟩
    repeat walk_at "ds"
    refine ⟨_, hg.i, rfl, ?_⟩
    repeat walk_at "ds"
    refine ⟨_, _, hi, rfl, ?_⟩
    repeat walk_at "ds"
    refine kept_ hg hA (by omega) hW ?_
    repeat walk_at "ds"
    have kl : (keptD (plD row.length) A).length ≤ 59 := Nat.le_trans (kept_len hA.len) hm
    refine ⟨_, _, _, hl, rfl, rfl, line_of (by rw [List.length_map]; omega), ?_⟩
    rw [← List.map_append]
    repeat walk_at "ds"
    have hi4 := (set_other (s := s3) (l := c.ll) (o := .lst ((L ++ keptD (plD row.length) A).map Cl.sh)) a2).trans hi
    refine ⟨_, hi4, by show 9 < 1000; decide, ?_⟩
    rw [put_over]
    repeat walk_at "ds"
    refine ⟨0, by decide, .inr ⟨rfl, ?_, ?_, rfl⟩⟩
    · have lp := lt_of_at hi4
      refine ⟨?_, ?_, ?_, P.nd⟩
      · rw [trim_get (by simp at lp; omega)]
        exact set_same lp
      · rw [trim_get (by have := lt_of_at hn; omega), set_other (Ne.symm a1), set_other b1]
        exact hn
      · rw [trim_get (by have := lt_of_at hl; omega), set_other (Ne.symm a2)]
        exact set_same (lt_of_at hl)
    · have F4 := (F3.set (o := .lst ((L ++ keptD (plD row.length) A).map Cl.sh)) in_ll).set (o := .ins "Run" (rfs (wholeD row) (.tuple (as.map PyData.int)) u st c.ln c.ll c.lf (.tuple [.str "ended"]) (plD row.length))) in_p
      refine ⟨?_, fun j hj hn => ?_⟩
      · refine Nat.le_trans Fs.1 ?_
        exact trim_ge (by simp; omega)
      · rw [trim_get (Nat.lt_of_lt_of_le hj Fs.1)]
        exact F4.2 j hj hn
  · repeat walk_at "ds"
    refine ⟨_, _, R.i, rfl, ?_⟩
    repeat walk_at "ds"
    obtain ⟨hn1, hn2, hn3, hn4⟩ := R
    have lt : ∀ j ∈ [c.p, c.ln, c.ll], j < s.length := fun j hj => by
      simp at hj
      rcases hj with rfl | rfl | rfl
      · exact P.lt in_p
      · exact P.lt in_ln
      · exact P.lt in_ll
    exact q _ ⟨(trim_get (lt _ (by simp))).trans hn1, (trim_get (lt _ (by simp))).trans hn2, (trim_get (lt _ (by simp))).trans hn3, hn4⟩ F.trim
end
end Ds.K10
namespace Ds.K10
open PySem PySem.Spec PyProof.Rows L2 Dn TL
/-- a run, step by step -/
structure Go where
  u : Nat
  A : Th
  T : List Int
  L : List D
def goP (row : List Wd) (nums : List Int) : Nat → Go
  | 0 => ⟨0, [], [], []⟩
  | k + 1 => match row[k]? with
    | some w => ⟨usedP (goP row nums k).u w, stepP ((nums[k]?).getD 0) (goP row nums k).A w, (goP row nums k).T ++ tellP (goP row nums k).A w, (goP row nums k).L ++ leftP (plD k) (goP row nums k).A w⟩
    | none => goP row nums k
theorem goP_step {row : List Wd} {nums : List Int} {k : Nat} {w : Wd} (h : row[k]? = some w) : goP row nums (k + 1) = ⟨usedP (goP row nums k).u w, stepP ((nums[k]?).getD 0) (goP row nums k).A w, (goP row nums k).T ++ tellP (goP row nums k).A w, (goP row nums k).L ++ leftP (plD k) (goP row nums k).A w⟩ := by
  show (match row[k]? with
    | some w => _
    | none => _) = _
  rw [h]
/-- what is asked of a case -/
structure Cs (Ws Bs : List Str) (row : List Wd) (nums as : List Int) : Prop where
  ws : ∀ w ∈ Ws, Ok 10 w
  wl : Ws.length ≤ 6
  bs : ∀ x ∈ Bs, Bxo x
  len : row.length ≤ 55
  ok : ∀ w ∈ row, WdOk Ws Bs w
  an : ∀ (k : Nat) (w : Wd), row[k]? = some w → wants w = true → as[(goP row nums k).u]? = some ((nums[k]?).getD 0) ∧ 0 ≤ (nums[k]?).getD 0 ∧ (nums[k]?).getD 0 < 10000
section
variable {Ws Bs : List Str} {row : List Wd} {nums as : List Int}
theorem drop_kept {pl : D} {A : Th} {w : Wd} (h : WdOk Ws Bs w) (hA : ThOk Ws Bs 55 A) : (leftP pl A w).length ≤ 10 := by
  cases w with
  | drop xs => exact Nat.le_trans (kept_len (dropped_ok hA (M := []) (n := 0) .nil h.1).len) (by have := h.2; omega)
  | _ => exact Nat.zero_le _
theorem go_ok (C : Cs Ws Bs row nums as) : ∀ k, k ≤ row.length → ThOk Ws Bs k (goP row nums k).A ∧ (goP row nums k).T.length ≤ k ∧ (goP row nums k).L.length ≤ 10 * k
  | 0, _ => ⟨.nil, Nat.le_refl _, Nat.le_refl _⟩
  | k + 1, hk => by
    obtain ⟨h1, h2, h3⟩ := go_ok C k (by omega)
    have hw : row[k]? = some row[k] := List.getElem?_eq_getElem (by omega)
    have ok := C.ok _ (List.getElem_mem (h := show k < row.length by omega))
    rw [goP_step hw]
    refine ⟨h1.step _ ok, ?_, ?_⟩
    · rw [List.length_append]
      have : (tellP (goP row nums k).A row[k]).length ≤ 1 := by cases row[k] <;> simp [tellP]
      omega
    · rw [List.length_append]
      have := drop_kept (pl := plD k) ok (h1.up (by have := C.len; omega))
      omega
end
def onD (row : List Wd) (nums : List Int) (m : Nat) : D := .tuple [.str "on", plD m, .int m, .tuple ((goP row nums m).T.map PyData.int), .tuple (goP row nums m).L, shownD (goP row nums m).A]
def endD (row : List Wd) (nums : List Int) : D := .tuple [.str "ended", .int row.length, .tuple ((goP row nums row.length).T.map PyData.int), .tuple ((goP row nums row.length).L ++ keptD (plD row.length) (goP row nums row.length).A)]
theorem Fq.toFz {c : Lc} {s s1 s2 : St} (h : ∀ j ∈ c.all, s.length ≤ j) (f : Fz s s1) (g : Fq c s1 s2) : Fz s s2 := ⟨Nat.le_trans f.1 g.1, fun j hj => (g.2 j (Nat.lt_of_lt_of_le hj f.1) fun z => by have := h j z; omega).trans (f.2 j hj)⟩
end Ds.K10
namespace Ds.K10
open PySem PySem.Spec PyProof.Rows L2 Dn TL
section
variable {c : Lc} {row : List Wd} {as : List Int} {u : Nat} {st : Int} {ov pl : D} {A : Th} {T : List Int} {L : List D} {s : St} {Q : Cl → St → Prop} {Ws Bs : List Str} {m : Nat}
theorem step_go {k : Nat} {w : Wd} {a : Int} (P : RS c row as u st .none (plD k) A T L s) (hW : ∀ w ∈ Ws, Ok 10 w) (hWl : Ws.length ≤ 6) (hB : ∀ x ∈ Bs, Bxo x) (hA : ThOk Ws Bs m A) (hm : m ≤ 58) (hT : T.length ≤ 1000) (hL : L.length ≤ 9000) (hk : row[k]? = some w) (hw : WdOk Ws Bs w) (ha : wants w = true → as[u]? = some a ∧ 0 ≤ a ∧ a < 10000)
    (q1 : ∀ v, row[k + 1]? = some v → ∀ s', RS c row as (usedP u w) (st + 1) .none (plD (k + 1)) (stepP a A w) (T ++ tellP A w) (L ++ leftP (plD k) A w) s' → Fq c s s' → Q (.sh .none) s')
    (q2 : k + 1 = row.length → ∀ s', RF c row as (usedP u w) (st + 1) (.tuple [.str "ended"]) (plD row.length) (T ++ tellP A w) ((L ++ leftP (plD k) A w) ++ keptD (plD row.length) (stepP a A w)) s' → Fq c s s' → Q (.sh .none) s') : FRun f_Run_step [.lo c.p] s Q := by
  have hlt := (List.getElem?_eq_some_iff.mp hk).1
  have ew : wAt row k = encW w := by unfold wAt; rw [hk]
  refine frun_fn rfl ?_
  unfold m_Run_step
  repeat walk_at "ds"
  refine ⟨_, _, P.i, rfl, ?_⟩
  repeat walk_at "ds"
  refine ⟨_, _, P.i, rfl, ?_⟩
  repeat walk_at "ds"
  refine word_at_ (Nat.le_of_lt hlt) fun s1 F1 => ?_
  rw [ew]
  have P1 := P.fz F1
  have E1 : Fq c s s1 := Fq.refl.fz F1
  repeat walk_at "ds"
  refine ⟨_, P1.i, rfl, ?_⟩
  repeat walk_at "ds"
  refine lead_ ?_
  repeat walk_at "ds"
  refine ⟨_, ix0 w, ?_⟩
  repeat walk_at "ds"
  refine two_dec (fun h => absurd h (nm_risk w)) (fun _ => ?_)
  repeat walk_at "ds"
  refine ⟨_, P1.i, rfl, ?_⟩
  repeat walk_at "ds"
  refine change_ P1 hW hWl hB hA (by omega) hT (by omega) hw ha fun s2 P2 F2 => ?_
  have E2 := E1.trans F2
  repeat walk_at "ds"
  refine ⟨_, P2.i, rfl, ?_⟩
  repeat walk_at "ds"
  refine ⟨_, _, P2.i, rfl, ?_⟩
  repeat walk_at "ds"
  refine ⟨_, _, P2.i, rfl, ?_⟩
  repeat walk_at "ds"
  refine behind_ fun s3 F3 => ?_
  have P3 := P2.fz F3
  have E3 := E2.fz F3
  repeat walk_at "ds"
  by_cases hv : k + 1 < row.length
  · have hv2 : row[k + 1]? = some row[k + 1] := List.getElem?_eq_getElem hv
    refine come_word P3 hv2 fun s4 P4 F4 => ?_
    repeat walk_at "ds"
    refine ⟨_, _, P4.i, by show 9 < 1000; decide, rfl, ?_⟩
    rw [put_steps]
    repeat walk_at "ds"
    exact q1 _ hv2 _ (P4.run.trim fun j hj => P.lt hj) ((E3.trans F4).set in_p).trim
  · have hv2 : k + 1 = row.length := by omega
    rw [hv2]
    refine come_end P3 hW (hA.step a hw) (by omega) ?_ fun s4 R4 F4 => ?_
    · rw [List.length_append]
      have : (leftP (plD k) A w).length ≤ 10 := by
        cases w with
        | drop xs => exact Nat.le_trans (kept_len (dropped_ok hA (M := []) (n := 0) .nil hw.1).len) (by have := hw.2; omega)
        | _ => exact Nat.zero_le _
      omega
    repeat walk_at "ds"
    refine ⟨_, _, R4.i, by show 9 < 1000; decide, rfl, ?_⟩
    rw [put_steps]
    repeat walk_at "ds"
    obtain ⟨⟨a1, a2, a3, a4, a5⟩, _⟩ := nd_of P.nd
    have lt : ∀ j ∈ c.all, j < s.length := fun j hj => P.lt hj
    refine q2 hv2 _ ⟨?_, ?_, ?_, P.nd⟩ ((E3.trans F4).set in_p).trim
    · rw [trim_get (lt _ in_p)]
      exact set_same (lt_of_at R4.i)
    · rw [trim_get (lt _ in_ln), set_other (Ne.symm a1)]
      exact R4.n
    · rw [trim_get (lt _ in_ll), set_other (Ne.symm a2)]
      exact R4.l
end
end Ds.K10
namespace Ds.K10
open PySem PySem.Spec PyProof.Rows L2 Dn TL
section
variable {c : Lc} {row : List Wd} {as nums : List Int} {s : St} {Q : Cl → St → Prop} {Ws Bs : List Str}
theorem rinit_ (C : Cs Ws Bs row nums as) (q1 : ∀ w, row[0]? = some w → ∀ (c : Lc) s', c.p = s.length → (∀ j ∈ c.all, s.length ≤ j) → RS c row as 0 0 .none (plD 0) [] [] [] s' → Fz s s' → Q (.sh .none) s')
    (q2 : row = [] → ∀ (c : Lc) s', c.p = s.length → (∀ j ∈ c.all, s.length ≤ j) → RF c row as 0 0 (.tuple [.str "ended"]) (plD 0) [] [] s' → Fz s s' → Q (.sh .none) s') :
    FRun f_Run___init__ [.lo s.length, .sh (wholeD row), .sh (.tuple (as.map PyData.int))] (s ++ [.ins "Run" []]) Q := by
  refine frun_fn rfl ?_
  unfold m_Run___init__
  have st : ∀ {s1 : St} {fs : List (Str × Cl)} (fs' : List (Str × Cl)), s1[s.length]? = some (.ins "Run" fs) → Fz s s1 → s.length < s1.length →
      (s1.set s.length (.ins "Run" fs'))[s.length]? = some (.ins "Run" fs') ∧ Fz s (s1.set s.length (.ins "Run" fs')) ∧ (s1.set s.length (.ins "Run" fs')).length = s1.length ∧ ∀ j, j ≠ s.length → (s1.set s.length (.ins "Run" fs'))[j]? = s1[j]? :=
    fun fs' h F hl => ⟨set_same hl, F.put (Nat.le_refl _), by simp, fun j hj => set_other hj⟩
  have h0 : (s ++ [Ob.ins "Run" []])[s.length]? = some (.ins "Run" []) := app_new
  have f0 : Fz s (s ++ [Ob.ins "Run" []]) := Fz.app
  have l0 : (s ++ [Ob.ins "Run" []]).length = s.length + 1 := by simp
  generalize s ++ [Ob.ins "Run" []] = s0 at h0 f0 l0 ⊢
  repeat walk_at "ds"
  refine ⟨_, h0, by decide, ?_⟩
  obtain ⟨h1, f1, l1, _⟩ := st (putFC "whole" (.sh (wholeD row)) []) h0 f0 (by omega)
  generalize s0.set s.length _ = s1 at h1 f1 l1 ⊢
  repeat walk_at "ds"
  refine ⟨_, h1, by show 1 < 1000; decide, ?_⟩
  obtain ⟨h2, f2, l2, _⟩ := st (putFC "given" (.sh (.tuple (as.map PyData.int))) (putFC "whole" (.sh (wholeD row)) [])) h1 f1 (by omega)
  generalize s1.set s.length _ = s2 at h2 f2 l2 ⊢
  repeat walk_at "ds"
  refine ⟨_, h2, by show 2 < 1000; decide, ?_⟩
  obtain ⟨h3, f3, l3, _⟩ := st (putFC "used" (.sh (.int 0)) (putFC "given" (.sh (.tuple (as.map PyData.int))) (putFC "whole" (.sh (wholeD row)) []))) h2 f2 (by omega)
  generalize s2.set s.length _ = s3 at h3 f3 l3 ⊢
  repeat walk_at "ds"
  refine ⟨_, h3, by show 3 < 1000; decide, ?_⟩
  obtain ⟨h4, f4, l4, _⟩ := st (putFC "steps" (.sh (.int 0)) (putFC "used" (.sh (.int 0)) (putFC "given" (.sh (.tuple (as.map PyData.int))) (putFC "whole" (.sh (wholeD row)) [])))) h3 f3 (by omega)
  generalize s3.set s.length _ = s4 at h4 f4 l4 ⊢
  repeat walk_at "ds"
  have h4' := (app_old (o := Ob.lst []) (lt_of_at h4)).trans h4
  have f4' : Fz s (s4 ++ [Ob.lst []]) := f4.trans Fz.app
  have n4 : (s4 ++ [Ob.lst []])[s4.length]? = some (.lst []) := app_new
  have l4' : (s4 ++ [Ob.lst []]).length = s4.length + 1 := by simp
  generalize s4 ++ [Ob.lst []] = s4' at h4' f4' n4 l4' ⊢
  refine ⟨_, h4', by show 4 < 1000; decide, ?_⟩
  obtain ⟨h5, f5, l5, k5⟩ := st (putFC "numbers" (.lo s4.length) (putFC "steps" (.sh (.int 0)) (putFC "used" (.sh (.int 0)) (putFC "given" (.sh (.tuple (as.map PyData.int))) (putFC "whole" (.sh (wholeD row)) []))))) h4' f4' (by omega)
  have n5 := (k5 s4.length (by omega)).trans n4
  generalize s4'.set s.length _ = s5 at h5 f5 l5 n5 ⊢
  repeat walk_at "ds"
  have h5' := (app_old (o := Ob.lst []) (lt_of_at h5)).trans h5
  have f5' : Fz s (s5 ++ [Ob.lst []]) := f5.trans Fz.app
  have n5' := (app_old (o := Ob.lst []) (lt_of_at n5)).trans n5
  have v5 : (s5 ++ [Ob.lst []])[s5.length]? = some (.lst []) := app_new
  have l5' : (s5 ++ [Ob.lst []]).length = s5.length + 1 := by simp
  generalize s5 ++ [Ob.lst []] = s5' at h5' f5' n5' v5 l5' ⊢
  refine ⟨_, h5', by show 5 < 1000; decide, ?_⟩
  obtain ⟨h6, f6, l6, k6⟩ := st (putFC "leavings" (.lo s5.length) (putFC "numbers" (.lo s4.length) (putFC "steps" (.sh (.int 0)) (putFC "used" (.sh (.int 0)) (putFC "given" (.sh (.tuple (as.map PyData.int))) (putFC "whole" (.sh (wholeD row)) [])))))) h5' f5' (by omega)
  have n6 := (k6 s4.length (by omega)).trans n5'
  have v6 := (k6 s5.length (by omega)).trans v5
  generalize s5'.set s.length _ = s6 at h6 f6 l6 n6 v6 ⊢
  repeat walk_at "ds"
  refine finit_ fun s7 F7 G7 L7 => ?_
  refine ⟨rfl, ?_⟩
  repeat walk_at "ds"
  have h7 := F7.at_ h6
  have n7 := F7.at_ n6
  have v7 := F7.at_ v6
  have f7 : Fz s s7 := f6.trans F7
  have h8 := (app_old (o := Ob.lst [Cl.lo s6.length]) (lt_of_at h7)).trans h7
  have n8 := (app_old (o := Ob.lst [Cl.lo s6.length]) (lt_of_at n7)).trans n7
  have v8 := (app_old (o := Ob.lst [Cl.lo s6.length]) (lt_of_at v7)).trans v7
  have g8 : Fo s6.length (s6.length + 1) .none [] (s7 ++ [Ob.lst [Cl.lo s6.length]]) := G7.fz Fz.app
  have w8 : (s7 ++ [Ob.lst [Cl.lo s6.length]])[s7.length]? = some (.lst [.lo s6.length]) := app_new
  have f8 : Fz s (s7 ++ [Ob.lst [Cl.lo s6.length]]) := f7.trans Fz.app
  have l8 : (s7 ++ [Ob.lst [Cl.lo s6.length]]).length = s7.length + 1 := by simp
  generalize s7 ++ [Ob.lst [Cl.lo s6.length]] = s8 at h8 n8 v8 g8 w8 f8 l8 ⊢
  refine ⟨_, h8, by show 6 < 1000; decide, ?_⟩
  obtain ⟨h9, f9, l9, k9⟩ := st (putFC "frames" (.lo s7.length) (putFC "leavings" (.lo s5.length) (putFC "numbers" (.lo s4.length) (putFC "steps" (.sh (.int 0)) (putFC "used" (.sh (.int 0)) (putFC "given" (.sh (.tuple (as.map PyData.int))) (putFC "whole" (.sh (wholeD row)) []))))))) h8 f8 (by omega)
  have n9 := (k9 s4.length (by omega)).trans n8
  have v9 := (k9 s5.length (by omega)).trans v8
  have w9 := (k9 s7.length (by omega)).trans w8
  have g9 : Fo s6.length (s6.length + 1) .none [] _ := ⟨(k9 s6.length (by omega)).trans g8.i, (k9 (s6.length + 1) (by omega)).trans g8.d, g8.ne⟩
  generalize s8.set s.length _ = s9 at h9 f9 l9 n9 v9 w9 g9 ⊢
  repeat walk_at "ds"
  refine ⟨_, h9, by show 7 < 1000; decide, ?_⟩
  obtain ⟨hA, fA, lA, kA⟩ := st (putFC "over_by" (.sh .none) (putFC "frames" (.lo s7.length) (putFC "leavings" (.lo s5.length) (putFC "numbers" (.lo s4.length) (putFC "steps" (.sh (.int 0)) (putFC "used" (.sh (.int 0)) (putFC "given" (.sh (.tuple (as.map PyData.int))) (putFC "whole" (.sh (wholeD row)) [])))))))) h9 f9 (by omega)
  have nA := (kA s4.length (by omega)).trans n9
  have vA := (kA s5.length (by omega)).trans v9
  have wA := (kA s7.length (by omega)).trans w9
  have gA : Fo s6.length (s6.length + 1) .none [] _ := ⟨(kA s6.length (by omega)).trans g9.i, (kA (s6.length + 1) (by omega)).trans g9.d, g9.ne⟩
  generalize s9.set s.length _ = sA at hA fA lA nA vA wA gA ⊢
  repeat walk_at "ds"
  refine ⟨_, hA, by show 8 < 1000; decide, ?_⟩
  obtain ⟨hB, fB, lB, kB⟩ := st (rfs (wholeD row) (.tuple (as.map PyData.int)) 0 0 s4.length s5.length s7.length .none .none) hA fA (by omega)
  have nB := (kB s4.length (by omega)).trans nA
  have vB := (kB s5.length (by omega)).trans vA
  have wB := (kB s7.length (by omega)).trans wA
  have gB : Fo s6.length (s6.length + 1) .none [] _ := ⟨(kB s6.length (by omega)).trans gA.i, (kB (s6.length + 1) (by omega)).trans gA.d, gA.ne⟩
  have er : putFC "place" (.sh .none) (putFC "over_by" (.sh .none) (putFC "frames" (.lo s7.length) (putFC "leavings" (.lo s5.length) (putFC "numbers" (.lo s4.length) (putFC "steps" (.sh (.int 0)) (putFC "used" (.sh (.int 0)) (putFC "given" (.sh (.tuple (as.map PyData.int))) (putFC "whole" (.sh (wholeD row)) [])))))))) = rfs (wholeD row) (.tuple (as.map PyData.int)) 0 0 s4.length s5.length s7.length .none .none := rfl
  rw [er]
  generalize sA.set s.length _ = sB at hB fB lB nB vB wB gB ⊢
  obtain ⟨c, hc⟩ : ∃ c : Lc, c = ⟨s.length, s4.length, s5.length, s7.length, s6.length, s6.length + 1⟩ := ⟨_, rfl⟩
  have cp : c.p = s.length := by rw [hc]
  have cge : ∀ j ∈ c.all, s.length ≤ j := fun j hj => by
    rw [hc] at hj
    simp [Lc.all] at hj
    omega
  have cln : s0.length ≤ c.ln := by rw [hc]; show s0.length ≤ s4.length; omega
  have P : RS c row as 0 0 .none .none [] [] [] sB := by
    subst hc
    refine ⟨hB, wB, gB, nB, vB, ?_⟩
    simp [Lc.all]
    omega
  clear hB wB gB nB vB
  rw [← cp]
  repeat walk_at "ds"
  refine ⟨_, P.i, rfl, ?_⟩
  repeat walk_at "ds"
  refine first_place_ ?_
  repeat walk_at "ds"
  cases hr : row with
  | nil =>
    subst hr
    refine come_end P C.ws (.nil (Ws := Ws) (Bs := Bs)) (by decide) (by decide) fun s3 R3 F3 => ?_
    repeat walk_at "ds"
    have e : trim s0.length (.sh .none) s3 = s3 := trim_keep (j := c.p) R3.i (by rw [cp]; omega) (by
      unfold rfs
      simp [Ob.below, Cl.below]
      omega)
    rw [e]
    have ek : keptD (plD ([] : List Wd).length) [] = [] := by
      unfold keptD skeys keysA
      rw [List.map_nil, srt_nil]
      rfl
    rw [ek] at R3
    exact q2 rfl c _ cp cge R3 (Fq.toFz cge fB F3)
  | cons w r =>
    subst hr
    refine come_word P (w := w) rfl fun s3 P3 F3 => ?_
    repeat walk_at "ds"
    have e : trim s0.length (.sh .none) s3 = s3 := trim_keep (j := c.p) P3.i (by rw [cp]; omega) (by
      unfold rfs
      simp [Ob.below, Cl.below]
      omega)
    rw [e]
    exact q1 w rfl c _ cp cge P3 (Fq.toFz cge fB F3)
/-- what is told of a run -/
def resD (row : List Wd) (nums : List Int) (most : Nat) : D := if most < row.length then onD row nums most else endD row nums
def At (c : Lc) (row : List Wd) (as nums : List Int) (k : Nat) (s : St) : Prop :=
  (∃ w, row[k]? = some w ∧ RS c row as (goP row nums k).u k .none (plD k) (goP row nums k).A (goP row nums k).T (goP row nums k).L s) ∨
  (k = row.length ∧ RF c row as (goP row nums k).u k (.tuple [.str "ended"]) (plD row.length) (goP row nums k).T ((goP row nums k).L ++ keptD (plD row.length) (goP row nums k).A) s)
theorem rinit2 (C : Cs Ws Bs row nums as) (q : ∀ (c : Lc) s', c.p = s.length → (∀ j ∈ c.all, s.length ≤ j) → At c row as nums 0 s' → Fz s s' → Q (.sh .none) s') :
    FRun f_Run___init__ [.lo s.length, .sh (wholeD row), .sh (.tuple (as.map PyData.int))] (s ++ [.ins "Run" []]) Q :=
  rinit_ C (fun w hw c s' cp cge P F => q c s' cp cge (.inl ⟨w, hw, P⟩) F) fun hr c s' cp cge R F => q c s' cp cge (.inr ⟨by rw [hr]; rfl, by
    subst hr
    have ek : keptD (plD ([] : List Wd).length) [] = [] := by
      unfold keptD skeys keysA
      rw [List.map_nil, srt_nil]
      rfl
    show RF c [] as 0 0 _ (plD 0) [] ([] ++ keptD (plD ([] : List Wd).length) []) s'
    rw [ek]
    exact R⟩) F
theorem at_step {k : Nat} {w : Wd} (C : Cs Ws Bs row nums as) (hk : row[k]? = some w) (P : RS c row as (goP row nums k).u k .none (plD k) (goP row nums k).A (goP row nums k).T (goP row nums k).L s) (q : ∀ s', At c row as nums (k + 1) s' → Fq c s s' → Q (.sh .none) s') : FRun f_Run_step [.lo c.p] s Q := by
  have hlt := (List.getElem?_eq_some_iff.mp hk).1
  obtain ⟨g1, g2, g3⟩ := go_ok C k (by omega)
  have hl := C.len
  have ok : WdOk Ws Bs w := C.ok w (List.mem_of_getElem? hk)
  have ec : ((k : Int) + 1) = ((k + 1 : Nat) : Int) := by omega
  refine step_go (a := (nums[k]?).getD 0) P C.ws C.wl C.bs g1 (by omega) (by omega) (by omega) hk ok (C.an k w hk) (fun v hv s' P' F' => ?_) fun hv s' R' F' => ?_
  · refine q s' (.inl ⟨v, hv, ?_⟩) F'
    rw [goP_step hk, ← ec]
    exact P'
  · refine q s' (.inr ⟨hv, ?_⟩) F'
    rw [goP_step hk, ← ec]
    exact R'
theorem run_ (C : Cs Ws Bs row nums as) {most : Nat} (hmost : most ≤ 1000) (q : ∀ s', Fz s s' → Q (.sh (resD row nums most)) s') : FRun f_run [.sh (wholeD row), .sh (.tuple (as.map PyData.int)), .sh (.int most)] s Q := by
  have hlen := C.len
  refine frun_fn rfl ?_
  unfold m_run
  repeat walk_at "ds"
  refine rinit2 C fun c s1 cp cge H F1 => ?_
  refine ⟨rfl, ?_⟩
  rw [← cp]
  repeat walk_at "ds"
  refine RunX.mono (Q := fun fl e1 s' => fl = Fl.nx ∧ Fz s s' ∧ e1 = [.sh (wholeD row), .sh (.tuple (as.map PyData.int)), .sh (.int most), .lo c.p, .no] ∧ ((∃ w, row[most]? = some w ∧ RS c row as (goP row nums most).u most .none (plD most) (goP row nums most).A (goP row nums most).T (goP row nums most).L s') ∨ (row.length ≤ most ∧ RF c row as (goP row nums row.length).u row.length (.tuple [.str "ended"]) (plD row.length) (goP row nums row.length).T ((goP row nums row.length).L ++ keptD (plD row.length) (goP row nums row.length).A) s'))) ?_ (fun fl e1 s2 hh => ?_)
  · refine run_while (fun n e s' => ∃ k, n + k = row.length ∧ k ≤ most ∧ At c row as nums k s' ∧ Fz s s' ∧ e = [.sh (wholeD row), .sh (.tuple (as.map PyData.int)), .sh (.int most), .lo c.p, .no]) row.length (by omega) ⟨0, rfl, Nat.zero_le _, H, F1, rfl⟩ fun n e s' hI => ?_
    obtain ⟨k, hnk, hkm, hAt, F2, rfl⟩ := hI
    rcases hAt with ⟨w, hw, P⟩ | ⟨hk, R⟩
    · have hlt := (List.getElem?_eq_some_iff.mp hw).1
      repeat walk_at "ds"
      refine ⟨_, _, P.i, rfl, ?_⟩
      repeat walk_at "ds"
      refine ⟨_, _, P.i, rfl, ?_⟩
      repeat walk_at "ds"
      refine two_dec (fun h => ?_) (fun h => ?_)
      · repeat walk_at "ds"
        refine ⟨_, P.i, rfl, ?_⟩
        repeat walk_at "ds"
        have hu : wants w = true → (goP row nums k).u < as.length := fun hw2 => (List.getElem?_eq_some_iff.mp (C.an k w hw hw2).1).1
        refine wants_no P hw hu fun s3 F3 => ?_
        have P3 := P.fz F3
        repeat walk_at "ds"
        refine ⟨_, P3.i, rfl, ?_⟩
        repeat walk_at "ds"
        refine at_step C hw P3 fun s4 A4 F4 => ?_
        repeat walk_at "ds"
        exact ⟨n - 1, by omega, k + 1, by omega, by omega, A4, Fq.toFz cge (F2.trans F3) F4, rfl⟩
      · have hkm2 : k = most := by omega
        subst hkm2
        repeat walk_at "ds"
        exact ⟨rfl, F2, rfl, .inl ⟨w, hw, P⟩⟩
    · subst hk
      repeat walk_at "ds"
      refine ⟨_, _, R.i, rfl, ?_⟩
      repeat walk_at "ds"
      exact ⟨rfl, F2, rfl, .inr ⟨hkm, R⟩⟩
  · obtain ⟨rfl, F2, rfl, hE⟩ := hh
    rcases hE with ⟨w, hw, P⟩ | ⟨hle, R⟩
    · have hlt := (List.getElem?_eq_some_iff.mp hw).1
      obtain ⟨g1, g2, g3⟩ := go_ok C most (by omega)
      have e : resD row nums most = onD row nums most := if_pos hlt
      rw [e] at q
      repeat walk_at "ds"
      refine ⟨_, _, P.i, rfl, ?_⟩
      repeat walk_at "ds"
      refine ⟨_, _, P.i, rfl, ?_⟩
      repeat walk_at "ds"
      refine ⟨_, _, snap_list P.n, rfl, ?_⟩
      repeat walk_at "ds"
      refine ⟨_, _, P.i, rfl, ?_⟩
      repeat walk_at "ds"
      refine ⟨_, _, snap_list P.l, rfl, ?_⟩
      repeat walk_at "ds"
      refine ⟨_, _, P.i, rfl, ?_⟩
      repeat walk_at "ds"
      refine ⟨_, _, P.i, rfl, ?_⟩
      repeat walk_at "ds"
      refine ⟨_, _, P.i, rfl, ?_⟩
      repeat walk_at "ds"
      refine ⟨_, ixC_lo P.f rfl, ?_⟩
      repeat walk_at "ds"
      refine ⟨_, P.g.i, rfl, ?_⟩
      repeat walk_at "ds"
      refine shown_ P.g g1 (by omega) ?_
      repeat walk_at "ds"
      rw [cp]
      exact q _ F2.trim
    · have e : resD row nums most = endD row nums := if_neg (by omega)
      rw [e] at q
      repeat walk_at "ds"
      refine ⟨_, _, R.i, rfl, ?_⟩
      repeat walk_at "ds"
      refine ⟨_, _, R.i, rfl, ?_⟩
      repeat walk_at "ds"
      refine ⟨_, _, snap_list R.n, rfl, ?_⟩
      repeat walk_at "ds"
      refine ⟨_, _, R.i, rfl, ?_⟩
      repeat walk_at "ds"
      refine ⟨_, _, snap_list R.l, rfl, ?_⟩
      repeat walk_at "ds"
      refine ⟨_, _, R.i, rfl, ?_⟩
      repeat walk_at "ds"
      refine ⟨_, _, R.i, rfl, ?_⟩
      repeat walk_at "ds"
      rw [cp]
      exact q _ F2.trim
end
end Ds.K10
namespace Ds.K10
open PySem PySem.Spec PyProof.Rows L2 Dn TL
theorem gone_snoc : ∀ {xs : List Str} {B : Th} {x : Str}, goneL B (xs ++ [x]) = goneL B xs ++ [(x, (look (dropAll B xs) x).2)]
  | [], _, _ => rfl
  | y :: xs, B, x => by
    show (y, (look B y).2) :: goneL (dropA B y) (xs ++ [x]) = _
    rw [gone_snoc]
    rfl
def toldL (B : Th) : Wd → List Int
  | .tell x => [(look B x).1]
  | _ => []
def outsL (B : Th) : Wd → List D
  | .drop xs => (srt (outK B xs)).map fun x => .tuple [.str x, .tuple ((look B x).2.map PyData.str)]
  | _ => []
/-- the texts among data -/
def strsOf (ds : List D) : List Str := ds.filterMap fun d => match d with
  | .str x => some x
  | _ => none
theorem pre_dec {x n : Str} : decide (cutS x none (some ((n.length : Int) + 1)) = n ++ ".") = inRec x n := by
  unfold inRec
  refine decide_eq_decide.mpr ?_
  have e : tl (cutS x none (some ((n.length : Int) + 1))) = (tl x).take (n.length + 1) := by
    rw [tl_cutS]
    unfold HT.sIx
    dsimp only
    rw [if_neg (by omega), Nat.sub_zero, List.drop_zero]
    have e1 : ((n.length : Int) + 1).toNat = n.length + 1 := by omega
    rw [e1]
    by_cases h : n.length + 1 ≤ x.length
    · rw [Nat.min_eq_left h]
    · rw [Nat.min_eq_right (by omega), List.take_of_length_le (by rw [len_tl]; exact Nat.le_refl _), List.take_of_length_le (by rw [← len_tl]; omega)]
  have e2 : tl (n ++ ".") = tl n ++ [46] := by rw [tl_append]; rfl
  constructor
  · intro h
    rw [← e, h, e2]
  · intro h
    refine ext_tl ?_
    rw [e, h, e2]
end Ds.K10
namespace Ds.K10
open PySem PySem.Spec PyProof.Rows L2 Dn TL
theorem bx_listS_str {x : Str} {Q : D → Prop} (hl : x.length ≤ sizeLine) (h : Q (.list (sgnD x))) : ∃ c, bListS [.str x] = some c ∧ Q c := ⟨_, if_pos hl, h⟩
section
variable {lw : Nat} {B : Th} {s : St} {Q : Cl → St → Prop} {Ws Bs : List Str} {m : Nat}
/-- what is asked of, as texts -/
theorem some_ {w : List D} {a : D} {rest : List Cl} {R : Fl → Ev → St → Prop} (hl : w.length ≤ 10) (hd : s[lw]? = some (.dk (kvE B))) (hw : ∀ d ∈ w.drop 2, noDict d = true ∧ (isStr d = true → ∃ x, d = .str x)) (hr : rest.length = 6)
    (q : R .nx ([.lo lw, .sh (.tuple w), .sh a] ++ (.sh (.list ((strsOf (w.drop 2)).map fun x => valD (look B x))) :: rest.drop 1)) s) (h7 : rest[4]? = some .no) :
    Run (mSet 3 (mSh (mFr (mComp (mIter (mSl (mVar 1) (mPart (mC (PyData.int 2))) mNoPart)) [7] (mgName 7) (mTest (mIsi "str" (mVar 7))) (mD (mDGet2 (mLV 0) (mVar 7) (mSh (mTup [(mSh (mC (PyData.int 0))), (mSh (mTup []))])))))))) ([.lo lw, .sh (.tuple w), .sh a] ++ rest) s R := by
  match rest, hr, h7 with
  | [r3, r4, r5, r6, r7, r8], _, h7 =>
  cases h7
  repeat walk_at "ds"
  have ec : Dn.cutD w (some 2) none = w.drop 2 := by
    unfold Dn.cutD HT.sIx
    dsimp only
    rw [if_neg (by decide)]
    show (w.drop (min 2 w.length)).take (w.length - min 2 w.length) = w.drop 2
    by_cases h : 2 ≤ w.length
    · rw [Nat.min_eq_left h]
      exact List.take_of_length_le (by rw [List.length_drop]; exact Nat.le_refl _)
    · rw [Nat.min_eq_right (by omega), Nat.sub_self, List.take_zero, List.drop_of_length_le (by omega)]
  rw [ec]
  refine ⟨line_of (by rw [List.length_drop]; omega), ?_⟩
  refine run_compR _ (fun rem ys e s' => s' = s ∧ e = [.lo lw, .sh (.tuple w), .sh a, r3, r4, r5, r6, .no, r8] ∧ ∃ P, w.drop 2 = P ++ rem ∧ ys = (strsOf P).map fun x => valD (look B x)) ⟨rfl, rfl, [], rfl, rfl⟩ (fun d rem ys e s' hJ => ?_) fun ys e s' hJ => ?_
  · obtain ⟨rfl, rfl, P, hP, rfl⟩ := hJ
    obtain ⟨n1, n2⟩ := hw d (by rw [hP]; simp)
    refine ⟨_, rfl, ?_⟩
    repeat walk_at "ds"
    refine ⟨fun hb => ?_, fun hb => ?_⟩
    · obtain ⟨x, rfl⟩ := n2 hb
      repeat walk_at "ds"
      refine ⟨_, hd, ?_⟩
      repeat walk_at "ds"
      refine ⟨_, .inr x, hd, rfl, ?_⟩
      have e2 : (Cl.sh (.tuple [.int 0, .tuple []])) = .sh (valD zer) := rfl
      rw [e2, look_kvE]
      repeat walk_at "ds"
      exact ⟨rfl, rfl, P ++ [.str x], by rw [hP]; simp, by unfold strsOf; rw [List.filterMap_append, List.map_append]; rfl⟩
    · repeat walk_at "ds"
      refine ⟨rfl, rfl, P ++ [d], by rw [hP]; simp, ?_⟩
      have : strsOf [d] = [] := by
        unfold strsOf
        cases d <;> first | rfl | cases hb
      unfold strsOf at this ⊢
      rw [List.filterMap_append, this, List.append_nil]
  · obtain ⟨rfl, rfl, P, hP, rfl⟩ := hJ
    rw [List.append_nil] at hP
    rw [hP] at q
    refine ⟨_, shL_map _, ?_⟩
    repeat walk_at "ds"
    exact q
theorem popv {x : Str} {c : Cl} (hc : valC (kvE B) (.inr x) = some c) : c = .sh (valD (look B x)) := by
  have := look_kvE B x
  rw [hc] at this
  exact this
theorem popz {x : Str} (hd : s[lw]? = some (.dk (kvE B))) (hc : valC (kvE B) (.inr x) = none) : Cl.sh (valD zer) = .sh (valD (look B x)) ∧ s.set lw (.dk (kvE (dropA B x))) = s := by
  have := look_kvE B x
  rw [hc] at this
  refine ⟨this, ?_⟩
  rw [val_kvE, Option.map_eq_none_iff] at hc
  rw [drop_none hc, set_id hd]
def lastM : M Fl := (mSeq (mSet 5 (mSh (mFr (mComp (mIter (mVar 4)) [7] (mgName 7) mYes (mTup [(mSh (mVar 7)), (mSh (mBin dIx (mD (mDPop2 (mLV 0) (mVar 7) (mSh (mTup [(mSh (mC (PyData.int 0))), (mSh (mTup []))])))) (mC (PyData.int 1))))])))))
  (mRet (mSh (mTup [(mSh (mLst [])), (mSh (mSortL (mFr (mComp (mIter (mVar 5)) [8] (mgName 8) (mAndT (mTest (mBin dEq (mBin dIx (mVar 1) (mC (PyData.int 0))) (mC (PyData.str "drop")))) (mTest (mBin dNe (mBin dIx (mVar 8) (mC (PyData.int 1))) (mTup [])))) (mVar 8)))))]))))
/-- the last of it: what is popped, sorted -/
theorem last_ {kd : Str} {w1 : D} {a z3 : D} {xs : List Str} {R : Fl → Ev → St → Prop} (hd : s[lw]? = some (.dk (kvE B))) (hl : xs.length ≤ 100) (hO : ThOk Ws Bs m B) (hW : ∀ w ∈ Ws, Ok 10 w)
    (q : ∀ s' e', s'[lw]? = some (.dk (kvE (dropAll B xs))) → Fr lw s s' → R (.rt (.sh (.tuple [.list [], .list (if kd = "drop" then (srt (outK B xs)).map fun x => .tuple [.str x, .tuple ((look B x).2.map PyData.str)] else [])]))) e' s') :
    Run lastM [.lo lw, .sh (.tuple [.str kd, w1]), .sh a, .sh z3, .sh (.list (xs.map PyData.str)), .no, .no, .no, .no] s R := by
  unfold lastM
  repeat walk_at "ds"
  refine ⟨by rw [List.length_map]; exact line_of (by omega), ?_⟩
  refine run_compR _ (fun rem ys e s' => e = [.lo lw, .sh (.tuple [.str kd, w1]), .sh a, .sh z3, .sh (.list (xs.map PyData.str)), .no, .no, .no, .no] ∧ ∃ P C : List Str, xs = P ++ C ∧ rem = C.map PyData.str ∧ ys = (goneL B P).map pairD ∧ s' = s.set lw (.dk (kvE (dropAll B P)))) ⟨rfl, [], xs, rfl, rfl, rfl, (set_id hd).symm⟩ (fun d rem ys e s' hJ => ?_) fun ys e s' hJ => ?_
  · obtain ⟨rfl, P, C, hxs, hr, rfl, rfl⟩ := hJ
    cases C with
    | nil => cases hr
    | cons x C =>
      rw [List.map_cons] at hr
      injection hr with hr1 hr2
      subst hr1
      subst hr2
      have hd2 : (s.set lw (.dk (kvE (dropAll B P))))[lw]? = some (.dk (kvE (dropAll B P))) := set_same (lt_of_at hd)
      refine ⟨_, rfl, ?_⟩
      repeat walk_at "ds"
      refine ⟨_, hd2, ?_⟩
      repeat walk_at "ds"
      have e2 : (Cl.sh (.tuple [.int 0, .tuple []])) = .sh (valD zer) := rfl
      have e3 : dropAll B (P ++ [x]) = dropA (dropAll B P) x := by unfold dropAll; rw [List.foldl_append]; rfl
      refine ⟨_, .inr x, hd2, rfl, fun c hc => ?_, fun hc => ?_⟩
      · rw [popv hc, drop_kvE, List.set_set]
        repeat walk_at "ds"
        exact ⟨rfl, P ++ [x], C, by rw [hxs]; simp, rfl, by rw [gone_snoc, List.map_append]; rfl, by rw [e3]⟩
      · obtain ⟨z1, z2⟩ := popz hd2 hc
        rw [List.set_set] at z2
        rw [e2, z1]
        repeat walk_at "ds"
        exact ⟨rfl, P ++ [x], C, by rw [hxs]; simp, rfl, by rw [gone_snoc, List.map_append]; rfl, by rw [e3, z2]⟩
  · obtain ⟨rfl, P, C, hxs, hr, rfl, rfl⟩ := hJ
    have hC : C = [] := by cases C with
      | nil => rfl
      | cons _ _ => cases hr
    subst hC
    rw [List.append_nil] at hxs
    subst hxs
    have gl : (goneL B xs).length = xs.length := by
      have : ∀ (xs : List Str) (B : Th), (goneL B xs).length = xs.length := fun xs => by
        induction xs with
        | nil => intro B; rfl
        | cons x xs ih => intro B; show (goneL (dropA B x) xs).length + 1 = _; rw [ih]; rfl
      exact this xs B
    have gw : ∀ p ∈ goneL B xs, ∀ w ∈ p.2, Ok 10 w := by
      have : ∀ (xs : List Str) (B : Th), ThOk Ws Bs m B → ∀ p ∈ goneL B xs, ∀ w ∈ p.2, Ok 10 w := fun xs => by
        induction xs with
        | nil => intro B _ p hp; cases hp
        | cons x xs ih =>
          intro B hO p hp w hw
          rcases List.mem_cons.mp hp with rfl | hp
          · exact hW w ((hO.look x).mem w hw)
          · exact ih (dropA B x) (hO.filter _) p hp w hw
      exact this xs B hO
    have hd2 : (s.set lw (.dk (kvE (dropAll B xs))))[lw]? = some (.dk (kvE (dropAll B xs))) := set_same (lt_of_at hd)
    have F2 : Fr lw s (s.set lw (.dk (kvE (dropAll B xs)))) := Fr.set
    generalize s.set lw (.dk (kvE (dropAll B xs))) = s2 at hd2 F2 ⊢
    refine ⟨_, shL_map _, ?_⟩
    repeat walk_at "ds"
    refine ⟨by rw [List.length_map, gl]; exact line_of (by omega), ?_⟩
    refine run_compR _ (fun rem ys e s' => s' = s2 ∧ e = [.lo lw, .sh (.tuple [.str kd, w1]), .sh a, .sh z3, .sh (.list (xs.map PyData.str)), .sh (.list ((goneL B xs).map pairD)), .no, .no, .no] ∧ ∃ P C : List (Str × List Str), goneL B xs = P ++ C ∧ rem = C.map pairD ∧ ys = if kd = "drop" then (P.filter fun p => !p.2.isEmpty).map pairD else []) ⟨rfl, rfl, [], goneL B xs, rfl, rfl, by split <;> rfl⟩ (fun d rem ys e s' hJ => ?_) fun ys e s' hJ => ?_
    · obtain ⟨rfl, rfl, P, C, hxs, hr, rfl⟩ := hJ
      cases C with
      | nil => cases hr
      | cons p C =>
        obtain ⟨x, ws⟩ := p
        rw [List.map_cons] at hr
        injection hr with hr1 hr2
        subst hr1
        subst hr2
        have ok := gw (x, ws) (by rw [hxs]; simp)
        refine ⟨_, rfl, ?_⟩
        repeat walk_at "ds"
        refine two_dec (fun h => ?_) (fun h => ?_)
        · repeat walk_at "ds"
          unfold pairD
          repeat walk_at "ds"
          refine bx_ne (.inl rfl) ((Sh.strs (k := 0) ok).ok (by decide)) rfl ?_
          rw [eqv_unit]
          have e1 : (ws.map PyData.str).isEmpty = ws.isEmpty := by cases ws <;> rfl
          rw [e1]
          repeat walk_at "ds"
          refine ⟨fun hb => ?_, fun hb => ?_⟩
          · repeat walk_at "ds"
            exact ⟨rfl, rfl, P ++ [(x, ws)], C, by rw [hxs]; simp, rfl, by rw [if_pos h, if_pos h, List.filter_append, List.map_append]; simp [hb]⟩
          · repeat walk_at "ds"
            exact ⟨rfl, rfl, P ++ [(x, ws)], C, by rw [hxs]; simp, rfl, by rw [if_pos h, if_pos h, List.filter_append, List.map_append]; simp [hb, pairD]⟩
        · repeat walk_at "ds"
          exact ⟨rfl, rfl, P ++ [(x, ws)], C, by rw [hxs]; simp, rfl, by rw [if_neg h, if_neg h]⟩
    · obtain ⟨rfl, rfl, P, C, hxs, hr, rfl⟩ := hJ
      have hC : C = [] := by cases C with
        | nil => rfl
        | cons _ _ => cases hr
      subst hC
      rw [List.append_nil] at hxs
      subst hxs
      have F3 := F2
      obtain ⟨ds, eds, sd1, sd2⟩ : ∃ ds, (if kd = "drop" then ((goneL B xs).filter fun p => !p.2.isEmpty).map pairD else []) = ds ∧ sortB ds = true ∧ sortD ds = (if kd = "drop" then (srt (outK B xs)).map fun x => .tuple [.str x, .tuple ((look B x).2.map PyData.str)] else []) := by
        refine ⟨_, rfl, ?_, ?_⟩
        · split
          · rw [gone_pairs]
            refine sortB_box (g := fun x => [.tuple ((look B x).2.map PyData.str)]) ?_ (fun x y => ?_) fun x => ?_
            · unfold outK
              rw [List.length_map]
              exact Nat.le_trans (List.length_filter_le _ _) (by omega)
            · rw [PySem.W.alikeAll, PySem.W.alike, alike_strs]
              rfl
            · rw [PyData.depthAll, PyData.depth, dep_strs]
              decide
          · rfl
        · split
          · exact out_sorted
          · simp [sortD]
      rw [eds]
      refine ⟨_, shL_map _, ?_⟩
      repeat walk_at "ds"
      refine ⟨sd1, ?_⟩
      rw [sd2]
      repeat walk_at "ds"
      exact q _ _ hd2 F3
theorem mer (x1 x2 : Cl) : mergeC [] [(Sum.inr (Str.ofString "wipe"), x1), (Sum.inr (Str.ofString "drop"), x2)] = ([(.inr "wipe", x1), (.inr "drop", x2)] : List (Key × Cl)) := by
  unfold mergeC putC
  simp [List.foldl]
  decide
def wlD : Wd → List D
  | .take x w => [.str "take", .str x, .str w]
  | .ask x => [.str "ask", .str x]
  | .number x n => [.str "number", .str x, .int n]
  | .copy x y => [.str "copy", .str x, .str y]
  | .mix x y z => [.str "mix", .str x, .str y, .str z]
  | .opn x y => [.str "open", .str x, .str y]
  | .tell x => [.str "tell", .str x]
  | .wipe x => [.str "wipe", .str x]
  | .clear n => [.str "clear", .str n]
  | .drop xs => [.str "drop", .tuple (xs.map PyData.str)]
theorem wl_eq (w : Wd) : encW w = .tuple (wlD w) := by cases w <;> rfl
theorem wl_len (w : Wd) : (wlD w).length ≤ 10 := by cases w <;> simp [wlD]
theorem wl_str (w : Wd) : ∀ d ∈ (wlD w).drop 2, noDict d = true ∧ (isStr d = true → ∃ x, d = .str x) := by
  have s1 : ∀ x : Str, noDict (.str x) = true ∧ (isStr (.str x) = true → ∃ y, PyData.str x = .str y) := fun x => ⟨rfl, fun _ => ⟨_, rfl⟩⟩
  cases w <;> intro d hd <;> simp [wlD] at hd
  · subst hd; exact s1 _
  · subst hd; exact ⟨rfl, fun z => nomatch z⟩
  · subst hd; exact s1 _
  · rcases hd with rfl | rfl <;> exact s1 _
  · subst hd; exact s1 _
theorem done_ {w : Wd} {a : Int} (hd : s[lw]? = some (.dk (kvE B))) (hO : ThOk Ws Bs m B) (hm : m ≤ 59) (hW : ∀ w ∈ Ws, Ok 10 w) (hWl : Ws.length ≤ 6) (hB : ∀ x ∈ Bs, Bxo x) (hw : WdOk Ws Bs w) (q : ∀ s', s'[lw]? = some (.dk (kvE (stepL a B w))) → Fr lw s s' → Q (.sh (.tuple [.list ((toldL B w).map PyData.int), .list (outsL B w)])) s') :
    FRun f__law_done [.lo lw, .sh (encW w), .sh (.int a)] s Q := by
  have hlt := lt_of_at hd
  have ll : ∀ x, (look B x).2.length ≤ 6 := fun x => Nat.le_trans (hO.look x).len hWl
  have gt : ∀ x : Str, (valC (kvE B) (.inr x)).getD (.sh (.tuple [.int 0, .tuple []])) = .sh (valD (look B x)) := look_kvE B
  have sz : ∀ {x : Str} {n : Nat}, Ok n x → n ≤ 1000 → x.length ≤ sizeLine := fun h k => line_of (Nat.le_trans h.1 (by omega))
  have bl : (kvE B).length < sizeLine := by rw [kvE_len]; exact Nat.lt_of_le_of_lt hO.len (Nat.lt_of_le_of_lt hm (by decide))
  have fin : ∀ {x : Str} {v : Vl}, stepL a B w = putA B x v → toldL B w = [] → outsL B w = [] → Q (.sh (.tuple [.list [], .list []])) (s.set lw (.dk (kvE (putA B x v)))) := fun {x v} e1 e2 e3 => by
    have := q (s.set lw (.dk (kvE (putA B x v)))) (by rw [e1]; exact set_same hlt) Fr.set
    rw [e2, e3] at this
    exact this
  refine frun_fn rfl ?_
  unfold m__law_done
  show RunX _ (mSeq _ (mSeq _ (mSeq (mIfS _ (mSeq _ (mSeq _ lastM)) _) _))) _ _ _
  rw [wl_eq]
  refine run_seq (RunX.lift (some_ (w := wlD w) (rest := [.no, .no, .no, .no, .no, .no]) (wl_len w) hd (wl_str w) rfl ?_ rfl))
  refine seq_nx ?_
  cases w with
  | take x w =>
    dsimp only [wlD, strsOf, List.drop, List.filterMap, List.map]
    repeat walk_at "ds"
    have e : putC (kvE B) (.inr x) (.sh (.tuple [.int a, .tuple [.str w]])) = kvE (putA B x (a, [w])) := put_kvE B x (a, [w])
    refine ⟨_, .inr x, hd, rfl, bl, ?_⟩
    rw [e]
    repeat walk_at "ds"
    rw [trim_len (by simp)]
    exact fin rfl rfl rfl
  | ask x =>
    dsimp only [wlD, strsOf, List.drop, List.filterMap, List.map]
    repeat walk_at "ds"
    have e : putC (kvE B) (.inr x) (.sh (.tuple [.int a, .tuple []])) = kvE (putA B x (a, [])) := put_kvE B x (a, [])
    refine ⟨_, .inr x, hd, rfl, bl, ?_⟩
    rw [e]
    repeat walk_at "ds"
    rw [trim_len (by simp)]
    exact fin rfl rfl rfl
  | number x n =>
    dsimp only [wlD, strsOf, List.drop, List.filterMap, List.map]
    repeat walk_at "ds"
    have e : putC (kvE B) (.inr x) (.sh (.tuple [.int a, .tuple []])) = kvE (putA B x (a, [])) := put_kvE B x (a, [])
    refine ⟨_, .inr x, hd, rfl, bl, ?_⟩
    rw [e]
    repeat walk_at "ds"
    rw [trim_len (by simp)]
    exact fin rfl rfl rfl
  | copy x y =>
    dsimp only [wlD, strsOf, List.drop, List.filterMap, List.map]
    repeat walk_at "ds"
    refine ⟨_, .inr x, hd, rfl, bl, ?_⟩
    rw [put_kvE]
    repeat walk_at "ds"
    rw [trim_len (by simp)]
    exact fin rfl rfl rfl
  | mix x y z =>
    dsimp only [wlD, strsOf, List.drop, List.filterMap, List.map]
    repeat walk_at "ds"
    refine bx_add_tup (line_of (by rw [List.length_map, List.length_map]; have := ll y; have := ll z; omega)) ?_
    rw [← List.map_append]
    repeat walk_at "ds"
    refine ⟨_, _, _, rfl, rfl, toSs_map _, by rw [List.length_append]; have := ll y; have := ll z; show _ + 1 < 4096; omega, ?_⟩
    repeat walk_at "ds"
    have e : putC (kvE B) (.inr x) (.sh (.tuple [.int (((look B y).1 + (look B z).1 + (look B z).1) % 10007), .tuple ((sortT (metT ((look B y).2 ++ (look B z).2))).map PyData.str)])) = kvE (putA B x (((look B y).1 + (look B z).1 + (look B z).1) % 10007, srt ((look B y).2 ++ (look B z).2))) := put_kvE B x (((look B y).1 + (look B z).1 + (look B z).1) % 10007, srt ((look B y).2 ++ (look B z).2))
    refine ⟨_, .inr x, hd, rfl, bl, ?_⟩
    rw [e]
    repeat walk_at "ds"
    rw [trim_len (by simp)]
    exact fin rfl rfl rfl
  | opn x y =>
    dsimp only [wlD, strsOf, List.drop, List.filterMap, List.map]
    repeat walk_at "ds"
    have e : putC (kvE B) (.inr x) (.sh (.tuple [.int ((look B y).1 % 2), .tuple []])) = kvE (putA B x ((look B y).1 % 2, [])) := put_kvE B x ((look B y).1 % 2, [])
    refine ⟨_, .inr x, hd, rfl, bl, ?_⟩
    rw [e]
    repeat walk_at "ds"
    rw [trim_len (by simp)]
    exact fin rfl rfl rfl
  | tell x =>
    dsimp only [wlD, strsOf, List.drop, List.filterMap, List.map]
    repeat walk_at "ds"
    refine ⟨_, hd, ?_⟩
    repeat walk_at "ds"
    refine ⟨_, .inr x, hd, rfl, ?_⟩
    rw [gt]
    repeat walk_at "ds"
    rw [trim_len rfl]
    exact q s hd (Fr.refl _ _)
  | wipe x =>
    dsimp only [wlD, strsOf, List.drop, List.filterMap, List.map]
    repeat walk_at "ds"
    refine bx_listS_str (sz (hB x hw).ok (by decide)) ?_
    repeat walk_at "ds"
    rw [mer]
    refine ⟨_, app_new, ?_⟩
    repeat walk_at "ds"
    refine ⟨_, .inr "wipe", app_new, rfl, ?_⟩
    repeat walk_at "ds"
    have hd2 := (app_old (o := Ob.dk ([(.inr "wipe", .sh (.list [.str x])), (.inr "drop", .sh (.list (sgnD x)))] : List (Key × Cl))) hlt).trans hd
    refine RunX.lift (last_ (kd := "wipe") (w1 := .str x) (xs := [x]) (Ws := Ws) (Bs := Bs) (m := m) hd2 (by simp) hO hW fun s' e' h1 F1 => ?_)
    rw [if_neg (by decide)]
    repeat walk_at "ds"
    exact q _ ((trim_get hlt).trans h1) (Fr.app.trans F1).trim
  | clear n =>
    have hnl := sz hw.1 (by decide)
    dsimp only [wlD, strsOf, List.drop, List.filterMap, List.map]
    repeat walk_at "ds"
    refine bx_listS_str hnl ?_
    repeat walk_at "ds"
    rw [mer]
    refine ⟨_, app_new, ?_⟩
    repeat walk_at "ds"
    refine ⟨_, .inr "clear", app_new, rfl, ?_⟩
    repeat walk_at "ds"
    have hd2 := (app_old (o := Ob.dk ([(.inr "wipe", .sh (.list [.str n])), (.inr "drop", .sh (.list (sgnD n)))] : List (Key × Cl))) hlt).trans hd
    have F0 : Fr lw s (s ++ [Ob.dk ([(.inr "wipe", .sh (.list [.str n])), (.inr "drop", .sh (.list (sgnD n)))] : List (Key × Cl))]) := Fr.app
    have hl2 : lw < (s ++ [Ob.dk ([(.inr "wipe", .sh (.list [.str n])), (.inr "drop", .sh (.list (sgnD n)))] : List (Key × Cl))]).length := lt_of_at hd2
    generalize s ++ [Ob.dk ([(.inr "wipe", .sh (.list [.str n])), (.inr "drop", .sh (.list (sgnD n)))] : List (Key × Cl))] = s1 at hd2 F0 hl2 ⊢
    refine ⟨_, hd2, ?_⟩
    have ek : ((kvE B).map fun kv => keyD kv.1) = (keysA B).map PyData.str := by
      unfold kvE keysA
      rw [List.map_map, List.map_map]
      rfl
    rw [ek]
    refine ⟨_, shL_map _, ?_⟩
    repeat walk_at "ds"
    have hl : (keysA B).length ≤ 59 := by unfold keysA; rw [List.length_map]; exact Nat.le_trans hO.len hm
    refine ⟨by rw [List.length_map]; exact line_of (by omega), ?_⟩
    refine run_compR _ (fun rem ys e s' => s' = s1 ∧ e = [.lo lw, .sh (.tuple [.str "clear", .str n]), .sh (.int a), .sh (.list []), .sh (.list []), .no, .no, .no, .no] ∧ ∃ P C : List Str, keysA B = P ++ C ∧ rem = C.map PyData.str ∧ ys = (P.filter fun x => inRec x n).map PyData.str) ⟨rfl, rfl, [], keysA B, rfl, rfl, rfl⟩ (fun d rem ys e s' hJ => ?_) fun ys e s' hJ => ?_
    · obtain ⟨rfl, rfl, P, C, hks, hr, rfl⟩ := hJ
      cases C with
      | nil => cases hr
      | cons x C =>
        rw [List.map_cons] at hr
        injection hr with hr1 hr2
        subst hr1
        subst hr2
        have hx : x ∈ keysA B := by rw [hks]; simp
        obtain ⟨p, hp, rfl⟩ := List.mem_map.mp hx
        have hxl : p.1.length ≤ sizeLine := sz (hB _ (hO.ok p hp).1).ok (by decide)
        have hnd : n.length + (".": Str).length ≤ sizeLine := line_of (by have := hw.1.1; show n.length + 1 ≤ _; omega)
        refine ⟨_, rfl, ?_⟩
        repeat walk_at "ds"
        rw [pre_dec]
        refine ⟨fun hb => ?_, fun hb => ?_⟩
        · repeat walk_at "ds"
          exact ⟨rfl, rfl, P ++ [p.1], C, by rw [hks]; simp, rfl, by rw [List.filter_append, List.map_append]; simp [hb]⟩
        · repeat walk_at "ds"
          exact ⟨rfl, rfl, P ++ [p.1], C, by rw [hks]; simp, rfl, by rw [List.filter_append, List.map_append]; simp [hb]⟩
    · obtain ⟨rfl, rfl, P, C, hks, hr, rfl⟩ := hJ
      have hC : C = [] := by cases C with
        | nil => rfl
        | cons _ _ => cases hr
      subst hC
      rw [List.append_nil] at hks
      rw [← hks]
      refine ⟨_, shL_map _, ?_⟩
      repeat walk_at "ds"
      refine RunX.lift (last_ (kd := "clear") (w1 := .str n) (xs := (keysA B).filter fun x => inRec x n) (Ws := Ws) (Bs := Bs) (m := m) hd2 (Nat.le_trans (List.length_filter_le _ _) (by omega)) hO hW fun s2 e' h1 F1 => ?_)
      rw [if_neg (by decide)]
      repeat walk_at "ds"
      exact q _ ((trim_get hlt).trans h1) (F0.trans F1).trim
  | drop xs =>
    dsimp only [wlD, strsOf, List.drop, List.filterMap, List.map]
    repeat walk_at "ds"
    rw [mer]
    refine ⟨_, app_new, ?_⟩
    repeat walk_at "ds"
    refine ⟨_, .inr "drop", app_new, rfl, ?_⟩
    repeat walk_at "ds"
    have hd2 := (app_old (o := Ob.dk ([(.inr "wipe", .sh (.list [.tuple (xs.map PyData.str)])), (.inr "drop", .sh (.list (xs.map PyData.str)))] : List (Key × Cl))) hlt).trans hd
    refine RunX.lift (last_ (kd := "drop") (w1 := .tuple (xs.map PyData.str)) (xs := xs) (Ws := Ws) (Bs := Bs) (m := m) hd2 (Nat.le_trans hw.2 (by decide)) hO hW fun s' e' h1 F1 => ?_)
    rw [if_pos rfl]
    repeat walk_at "ds"
    exact q _ ((trim_get hlt).trans h1) (Fr.app.trans F1).trim
end
end Ds.K10
namespace Ds.K10
open PySem PySem.Spec PyProof.Rows L2 Dn TL
/-- texts, whole numbers, tuples of them, so deep -/
def Fd : Nat → D → Prop
  | _, .str _ => True
  | _, .int _ => True
  | k + 1, .tuple ds => ds.length ≤ 1000 ∧ ∀ d ∈ ds, Fd k d
  | _, _ => False
theorem keys_fk (B : Th) : keysK (kvE B) = (keysA B).map PyData.str := by
  unfold keysK kvE keysA
  rw [List.map_map, List.map_map]
  rfl
theorem ThOk.stepL {Ws Bs : List Str} {c : Nat} {B : Th} {w : Wd} (h : ThOk Ws Bs c B) (a : Int) (k : WdOk Ws Bs w) : ThOk Ws Bs (c + 1) (stepL a B w) := by
  cases w with
  | take x w => exact h.put k.1 (.one k.2)
  | ask x => exact h.put k .nil
  | number x n => exact h.put k .nil
  | copy x y => exact h.put k.1 (h.look _)
  | mix x y z => exact h.put k.1 ((h.look _).app (h.look _))
  | opn x y => exact h.put k.1 .nil
  | tell x => exact h.up (Nat.le_succ _)
  | wipe x => exact (h.dropAll _).up (Nat.le_succ _)
  | clear n => exact (h.dropAll _).up (Nat.le_succ _)
  | drop xs => exact (h.dropAll _).up (Nat.le_succ _)
def tup3 (B : Th) (x : Str) : D := .tuple [.str x, .int (look B x).1, .tuple ((look B x).2.map PyData.str)]
theorem told_eq {A B : Th} (h : Rel A B) (w : Wd) : toldL B w = tellP A w := by
  cases w with
  | tell x => show [_] = [_]; rw [h.eq]
  | _ => rfl
theorem left_eq {A B : Th} (h : Rel A B) (pl : D) (w : Wd) : leftP pl A w = (outsL B w).map fun d => match d with
    | .tuple r => .tuple (pl :: r)
    | d => d := by
  cases w with
  | drop xs =>
    show keptD pl (dropped A xs) = _
    rw [h.out]
    unfold outsL
    rw [List.map_map]
    rfl
  | _ => rfl
end Ds.K10
namespace Ds.K10
open PySem PySem.Spec PyProof.Rows L2 Dn TL
section
variable {row : List Wd} {as nums : List Int} {s : St} {Q : Cl → St → Prop} {Ws Bs : List Str}
theorem formed_ : ∀ (k : Nat) (d : D) (s : St) (Q : Cl → St → Prop), Fd k d → Q (.sh (.bool true)) s → FRun (f_G39 (k + 1) 0) [.sh d] s Q
  | k, .str x, s, Q, _, q => by
    show FRun (fnF 1 2 (m__law_formed (f_G39 k))) _ _ _
    refine frun_fn rfl ?_
    unfold m__law_formed
    repeat walk_at "ds"
    rw [trim_len rfl]
    exact q
  | k, .int i, s, Q, _, q => by
    show FRun (fnF 1 2 (m__law_formed (f_G39 k))) _ _ _
    refine frun_fn rfl ?_
    unfold m__law_formed
    repeat walk_at "ds"
    rw [trim_len rfl]
    exact q
  | k + 1, .tuple ds, s, Q, h, q => by
    show FRun (fnF 1 2 (m__law_formed (f_G39 (k + 1)))) _ _ _
    refine frun_fn rfl ?_
    unfold m__law_formed
    repeat walk_at "ds"
    refine ⟨line_of (by have := h.1; omega), ?_⟩
    refine run_compF _ (fun _ => false) (fun d => d) (fun s' => s' = s) rfl (fun d hd s' hs' => ?_) fun s' hs' => ?_
    · subst hs'
      refine ⟨_, rfl, ?_⟩
      repeat walk_at "ds"
      refine formed_ k d _ _ (h.2 d hd) ?_
      repeat walk_at "ds"
      exact ⟨rfl, ⟨fun z => absurd z (by decide), fun _ => ⟨rfl, rfl⟩⟩⟩
    · subst hs'
      rw [List.filter_eq_nil_iff.mpr (fun _ _ => by decide)]
      refine ⟨_, shL_map _, ?_⟩
      repeat walk_at "ds"
      rw [trim_len rfl]
      exact q
  | 0, .tuple ds, s, Q, h, _ => h.elim
  | k, .none, s, Q, h, _ => by cases k <;> exact h.elim
  | k, .bool _, s, Q, h, _ => by cases k <;> exact h.elim
  | k, .list _, s, Q, h, _ => by cases k <;> exact h.elim
  | k, .dict _, s, Q, h, _ => by cases k <;> exact h.elim
theorem outs_tup {B : Th} {w : Wd} : ∀ d ∈ outsL B w, ∃ r, d = .tuple r ∧ r.length ≤ 10 := fun d hd => by
  cases w with
  | drop xs =>
    obtain ⟨x, _, rfl⟩ := List.mem_map.mp hd
    exact ⟨_, rfl, by simp⟩
  | _ => cases hd
theorem outs_len {B : Th} {w : Wd} (h : WdOk Ws Bs w) : (outsL B w).length ≤ 10 := by
  cases w with
  | drop xs =>
    unfold outsL
    rw [List.length_map]
    refine Nat.le_trans srt_len ?_
    unfold outK
    rw [List.length_map]
    refine Nat.le_trans (List.length_filter_le _ _) ?_
    have : ∀ (xs : List Str) (B : Th), (goneL B xs).length = xs.length := fun xs => by
      induction xs with
      | nil => intro B; rfl
      | cons x xs ih => intro B; show (goneL (dropA B x) xs).length + 1 = _; rw [ih]; rfl
    rw [this]
    exact h.2
  | _ => exact Nat.zero_le _
def plus (pl : D) (d : D) : D := match d with
  | .tuple r => .tuple (pl :: r)
  | d => d
theorem due_ (C : Cs Ws Bs row nums as) (hnum : ∀ (k : Nat) (x : Str) (n : Int), row[k]? = some (.number x n) → (nums[k]?).getD 0 = n) (hnl : nums.length = row.length) {ln : Nat} (hn : s[ln]? = some (.lst ((nums.map PyData.int).map Cl.sh))) {most : Nat} (hmost : most ≤ 1000) (q : ∀ s', Fz s s' → Q (.sh (resD row nums most)) s') :
    FRun f__law_due [.sh (.tuple (row.map encW)), .lo ln, .sh (.int most)] s Q := by
  have hlen := C.len
  have hlt := lt_of_at hn
  refine frun_fn rfl ?_
  unfold m__law_due
  repeat walk_at "ds"
  have e1 : (s ++ [Ob.dk []]).length = s.length + 1 := by simp
  have e2 : (s ++ [Ob.dk []] ++ [Ob.lst []]).length = s.length + 2 := by simp
  rw [e1, e2]
  have d0 : (s ++ [Ob.dk []] ++ [Ob.lst []] ++ [Ob.lst []])[s.length]? = some (.dk (kvE [])) := by
    rw [app_old (by simp), app_old (by simp)]
    exact app_new
  have t0 : (s ++ [Ob.dk []] ++ [Ob.lst []] ++ [Ob.lst []])[s.length + 1]? = some (.lst ((([] : List Int).map PyData.int).map Cl.sh)) := by
    rw [app_old (by simp), ← e1]
    exact app_new
  have g0 : (s ++ [Ob.dk []] ++ [Ob.lst []] ++ [Ob.lst []])[s.length + 2]? = some (.lst (([] : List D).map Cl.sh)) := by
    rw [← e2]
    exact app_new
  have f0 : Fz s (s ++ [Ob.dk []] ++ [Ob.lst []] ++ [Ob.lst []]) := Fz.app.trans (Fz.app.trans Fz.app)
  generalize s ++ [Ob.dk []] ++ [Ob.lst []] ++ [Ob.lst []] = s0 at d0 t0 g0 f0 ⊢
  obtain ⟨v, hv, hvm, hvl⟩ : ∃ v : Nat, (if ((row.map encW).length : Int) < (most : Int) then ((row.map encW).length : Int) else (most : Int)) = (v : Int) ∧ v = min most row.length ∧ v ≤ 55 := by
    rw [List.length_map]
    refine ⟨min most row.length, ?_, rfl, by omega⟩
    split <;> omega
  rw [hv]
  refine run_forL _ (fun i e s' => ∃ B : Th, Rel (goP row nums i).A B ∧ ThOk Ws Bs i B ∧ s'[s.length]? = some (.dk (kvE B)) ∧ s'[s.length + 1]? = some (.lst (((goP row nums i).T.map PyData.int).map Cl.sh)) ∧ s'[s.length + 2]? = some (.lst ((goP row nums i).L.map Cl.sh)) ∧ Fz s s' ∧ ∃ z6 z8 z9, e = [.sh (.tuple (row.map encW)), .lo ln, .sh (.int most), .lo s.length, .lo (s.length + 1), .lo (s.length + 2), z6, .no, z8, z9, .no, .no, .no, .no]) ⟨[], Rel.nil, .nil, d0, t0, g0, f0, _, _, _, rfl⟩ (fun i d e s' hd hI => ?_) fun e s' hI => ?_
  · obtain ⟨B, hR, hO, h1, h2, h3, F, z6, z8, z9, rfl⟩ := hI
    obtain ⟨rfl, hi⟩ := rngD_at hd
    have hir : i < row.length := by omega
    have hw : row[i]? = some row[i] := List.getElem?_eq_getElem hir
    have ok := C.ok _ (List.getElem_mem hir)
    obtain ⟨g1, g2, g3⟩ := go_ok C i (by omega)
    refine ⟨_, rfl, ?_⟩
    repeat walk_at "ds"
    refine bx_ix_tup (d := encW row[i]) ?_ ?_
    · unfold atI ixN
      rw [List.length_map, if_pos (by omega), if_pos (by omega)]
      simp [hir]
    repeat walk_at "ds"
    have hn2 := F.at_ hn
    refine ⟨.sh (.int ((nums[i]?).getD 0)), ixC_lo hn2 ?_, ?_⟩
    · have hin : i < nums.length := by omega
      unfold atI ixN
      rw [List.length_map, List.length_map, if_pos (by omega), if_pos (by omega)]
      simp [hin]
    repeat walk_at "ds"
    refine done_ h1 hO (by omega) C.ws C.wl C.bs ok fun s2 k1 F2 => ?_
    have k2 := (F2.2 _ (lt_of_at h2) (by omega)).trans h2
    have k3 := (F2.2 _ (lt_of_at h3) (by omega)).trans h3
    have Fs : Fz s s2 := ⟨Nat.le_trans F.1 F2.1, fun j hj => (F2.2 j (Nat.lt_of_lt_of_le hj F.1) (by omega)).trans (F.2 j hj)⟩
    repeat walk_at "ds"
    refine ⟨_, k2, ?_⟩
    repeat walk_at "ds"
    have tl1 : (toldL B row[i]).length ≤ 1 := by cases row[i] <;> simp [toldL]
    refine ⟨_, _, _, k2, rfl, rfl, line_of (by rw [List.length_map, List.length_map, List.length_map]; omega), ?_⟩
    rw [← List.map_append, ← List.map_append]
    have m1 := (set_other (s := s2) (l := s.length + 1) (o := .lst (((goP row nums i).T ++ toldL B row[i]).map PyData.int |>.map Cl.sh)) (show s.length ≠ s.length + 1 by omega)).trans k1
    have m3 := (set_other (s := s2) (l := s.length + 1) (o := .lst (((goP row nums i).T ++ toldL B row[i]).map PyData.int |>.map Cl.sh)) (show s.length + 2 ≠ s.length + 1 by omega)).trans k3
    have m2 := set_same (s := s2) (o := .lst (((goP row nums i).T ++ toldL B row[i]).map PyData.int |>.map Cl.sh)) (lt_of_at k2)
    have Fm : Fz s (s2.set (s.length + 1) (.lst (((goP row nums i).T ++ toldL B row[i]).map PyData.int |>.map Cl.sh))) := Fs.put (by omega)
    generalize s2.set (s.length + 1) (.lst (((goP row nums i).T ++ toldL B row[i]).map PyData.int |>.map Cl.sh)) = s3 at m1 m2 m3 Fm ⊢
    repeat walk_at "ds"
    refine ⟨_, m3, ?_⟩
    repeat walk_at "ds"
    have ol := outs_len (B := B) ok
    refine ⟨line_of (by omega), ?_⟩
    refine run_compF _ (fun _ => true) (plus (plD i)) (fun s' => s' = s3) rfl (fun d hd s' hs' => ?_) fun s' hs' => ?_
    · subst hs'
      obtain ⟨r, rfl, hr⟩ := outs_tup d hd
      refine ⟨_, rfl, ?_⟩
      repeat walk_at "ds"
      refine ⟨rfl, ⟨fun _ => ?_, fun z => absurd z (by decide)⟩⟩
      repeat walk_at "ds"
      refine bx_add_tup (line_of (by simp; omega)) ?_
      refine ⟨?_, rfl, rfl⟩
      show _ = plus (plD i) (.tuple r)
      unfold plus plD
      simp
    · subst hs'
      rw [List.filter_eq_self.mpr (fun _ _ => rfl)]
      refine ⟨_, shL_map _, ?_⟩
      repeat walk_at "ds"
      refine ⟨_, _, _, m3, rfl, rfl, line_of (by rw [List.length_map, List.length_map]; omega), ?_⟩
      rw [← List.map_append]
      repeat walk_at "ds"
      have hnx : ∀ x n, row[i] = .number x n → (nums[i]?).getD 0 = n := fun x n e => hnum i x n (by rw [hw, e])
      refine ⟨stepL ((nums[i]?).getD 0) B row[i], ?_, hO.stepL _ ok, (set_other (by omega)).trans m1, ?_, ?_, Fm.put (by omega), _, _, _, rfl⟩
      · rw [goP_step hw]
        exact hR.step hnx
      · rw [goP_step hw, set_other (by omega), m2, told_eq hR]
      · rw [goP_step hw, set_same (lt_of_at m3), left_eq hR]
        rfl
  · obtain ⟨B, hR, hO, h1, h2, h3, F, z6, z8, z9, rfl⟩ := hI
    rw [rngD_length] at hR hO h2 h3
    have ev : (v : Int).toNat = v := by omega
    rw [ev] at hR hO h2 h3
    obtain ⟨g1, g2, g3⟩ := go_ok C v (by omega)
    have hlk : (keysA B).length ≤ 55 := by unfold keysA; rw [List.length_map]; exact Nat.le_trans hO.len hvl
    have nd := keys_filter (q := fun p => decide (look B p.1 ≠ zer)) hR.b
    repeat walk_at "ds"
    refine ⟨_, h1, ?_⟩
    have f1 : (s'.set s.length (.fk (kvE B)))[s.length]? = some (.fk (kvE B)) := set_same (lt_of_at h1)
    repeat walk_at "ds"
    refine ⟨_, f1, ?_⟩
    rw [keys_fk]
    repeat walk_at "ds"
    refine ⟨by rw [List.length_map]; exact line_of (by omega), ?_⟩
    refine run_compR _ (fun rem ys e s2 => s2 = s'.set s.length (.fk (kvE B)) ∧ e = [.sh (.tuple (row.map encW)), .lo ln, .sh (.int most), .lo s.length, .lo (s.length + 1), .lo (s.length + 2), z6, .no, z8, z9, .no, .no, .no, .no] ∧ ∃ P K : List Str, keysA B = P ++ K ∧ rem = K.map PyData.str ∧ ys = (P.filter fun x => decide (look B x ≠ zer)).map (tup3 B)) ⟨rfl, rfl, [], keysA B, rfl, rfl, rfl⟩ (fun d rem ys e s2 hJ => ?_) fun ys e s2 hJ => ?_
    · obtain ⟨rfl, rfl, P, K, hks, hr, rfl⟩ := hJ
      cases K with
      | nil => cases hr
      | cons x K =>
        rw [List.map_cons] at hr
        injection hr with hr1 hr2
        subst hr1
        subst hr2
        have hv2 := look_at hO (show x ∈ keysA B by rw [hks]; simp)
        have wok : ∀ y ∈ (look B x).2, Ok 10 y := fun y hy => C.ws y ((hO.look x).mem y hy)
        refine ⟨_, rfl, ?_⟩
        repeat walk_at "ds"
        refine ⟨_, .inr x, _, f1, rfl, hv2, ?_⟩
        repeat walk_at "ds"
        refine bx_ne (.inl rfl) (sh_val wok).ok rfl ?_
        rw [eqv_zer]
        repeat walk_at "ds"
        refine two_dec (fun h => ?_) (fun h => ?_)
        · repeat walk_at "ds"
          exact ⟨rfl, rfl, P ++ [x], K, by rw [hks]; simp, rfl, by rw [List.filter_append, List.map_append]; simp [h]⟩
        · repeat walk_at "ds"
          refine ⟨_, .inr x, _, f1, rfl, hv2, ?_⟩
          repeat walk_at "ds"
          exact ⟨rfl, rfl, P ++ [x], K, by rw [hks]; simp, rfl, by rw [List.filter_append, List.map_append]; simp [h]; rfl⟩
    · obtain ⟨rfl, rfl, P, K, hks, hr, rfl⟩ := hJ
      have hK : K = [] := by cases K with
        | nil => rfl
        | cons _ _ => cases hr
      subst hK
      rw [List.append_nil] at hks
      rw [← hks]
      have nd2 : ((keysA B).filter fun x => decide (look B x ≠ zer)).Nodup := hR.b.filter _
      have so : sortD (((keysA B).filter fun x => decide (look B x ≠ zer)).map (tup3 B)) = (skeys (goP row nums v).A).map (tup3 B) := by
        rw [← hR.held]
        exact sort_box (g := fun x => [.int (look B x).1, .tuple ((look B x).2.map PyData.str)]) nd2
      have sb : sortB (((keysA B).filter fun x => decide (look B x ≠ zer)).map (tup3 B)) = true := by
        refine sortB_box (g := fun x => [.int (look B x).1, .tuple ((look B x).2.map PyData.str)]) (Nat.le_trans (List.length_filter_le _ _) (by omega)) (fun x y => ?_) fun x => ?_
        · rw [PySem.W.alikeAll, PySem.W.alikeAll, PySem.W.alike, PySem.W.alike, alike_strs]
          rfl
        · rw [PyData.depthAll, PyData.depthAll, PyData.depth, PyData.depth, dep_strs]
          decide
      have lsk : (skeys (goP row nums v).A).length ≤ 55 := Nat.le_trans srt_len (by unfold keysA; rw [List.length_map]; exact Nat.le_trans g1.len hvl)
      have ku : (s'.set s.length (.fk (kvE B))).set s.length (.dk (kvE B)) = s' := by rw [List.set_set]; exact set_id h1
      refine ⟨_, f1, ?_⟩
      rw [ku]
      refine ⟨_, shL_map _, ?_⟩
      generalize ((keysA B).filter fun x => decide (look B x ≠ zer)).map (tup3 B) = hds at so sb ⊢
      repeat walk_at "ds"
      refine ⟨sb, ?_⟩
      rw [so]
      repeat walk_at "ds"
      refine two_dec (fun h => ?_) (fun h => ?_)
      · rw [List.length_map] at h
        have hvm2 : v = most := by omega
        subst hvm2
        have er : resD row nums v = onD row nums v := if_pos (by omega)
        rw [er] at q
        repeat walk_at "ds"
        refine ⟨_, _, snap_list h2, rfl, ?_⟩
        repeat walk_at "ds"
        refine ⟨_, _, snap_list h3, rfl, ?_⟩
        repeat walk_at "ds"
        have := q _ (F.trim (c := .sh (onD row nums v)))
        unfold onD at this
        rw [hR.shown] at this
        exact this
      · rw [List.length_map] at h
        have hvm2 : v = row.length := by omega
        have er : resD row nums most = endD row nums := if_neg (by omega)
        rw [er] at q
        repeat walk_at "ds"
        refine ⟨_, h3, ?_⟩
        repeat walk_at "ds"
        refine ⟨line_of (by rw [List.length_map]; omega), ?_⟩
        refine run_compR _ (fun rem ys e s2 => s2 = s' ∧ e = [.sh (.tuple (row.map encW)), .lo ln, .sh (.int most), .lo s.length, .lo (s.length + 1), .lo (s.length + 2), z6, .sh (.list ((skeys (goP row nums v).A).map (tup3 B))), z8, z9, .no, .no, .no, .no] ∧ ∃ P K : List Str, skeys (goP row nums v).A = P ++ K ∧ rem = K.map (tup3 B) ∧ ys = (P.filter fun x => !(look B x).2.isEmpty).map fun x => .tuple [plD row.length, .str x, .tuple ((look B x).2.map PyData.str)]) ⟨rfl, rfl, [], skeys (goP row nums v).A, rfl, rfl, rfl⟩ (fun d rem ys e s2 hJ => ?_) fun ys e s2 hJ => ?_
        · obtain ⟨rfl, rfl, P, K, hks, hr, rfl⟩ := hJ
          cases K with
          | nil => cases hr
          | cons x K =>
            rw [List.map_cons] at hr
            injection hr with hr1 hr2
            subst hr1
            subst hr2
            have wok : ∀ y ∈ (look B x).2, Ok 10 y := fun y hy => C.ws y ((hO.look x).mem y hy)
            unfold tup3
            refine ⟨_, rfl, ?_⟩
            repeat walk_at "ds"
            refine bx_ne (.inl rfl) ((Sh.strs (k := 0) wok).ok (by decide)) rfl ?_
            rw [eqv_unit]
            have e1 : ((look B x).2.map PyData.str).isEmpty = (look B x).2.isEmpty := by cases (look B x).2 <;> rfl
            rw [e1]
            repeat walk_at "ds"
            refine ⟨fun hb => ?_, fun hb => ?_⟩
            · repeat walk_at "ds"
              exact ⟨rfl, rfl, P ++ [x], K, by rw [hks]; simp, rfl, by rw [List.filter_append, List.map_append]; simp [hb]⟩
            · repeat walk_at "ds"
              exact ⟨rfl, rfl, P ++ [x], K, by rw [hks]; simp, rfl, by rw [List.filter_append, List.map_append]; simp [hb, plD]⟩
        · obtain ⟨rfl, rfl, P, K, hks, hr, rfl⟩ := hJ
          have hK : K = [] := by cases K with
            | nil => rfl
            | cons _ _ => cases hr
          subst hK
          rw [List.append_nil] at hks
          rw [← hks]
          refine ⟨_, shL_map _, ?_⟩
          rw [hvm2] at h2 h3 hR g3 lsk ⊢
          have ek := hR.kept (pl := plD row.length)
          have kl : (keptD (plD row.length) (goP row nums row.length).A).length ≤ 55 := by
            rw [ek, List.length_map]
            exact Nat.le_trans (List.length_filter_le _ _) lsk
          rw [← ek]
          repeat walk_at "ds"
          refine ⟨_, _, _, h3, rfl, rfl, line_of (by rw [List.length_map]; omega), ?_⟩
          rw [← List.map_append]
          have m2 := (set_other (s := s2) (l := s.length + 2) (o := .lst (((goP row nums row.length).L ++ keptD (plD row.length) (goP row nums row.length).A).map Cl.sh)) (show s.length + 1 ≠ s.length + 2 by omega)).trans h2
          have m3 := set_same (s := s2) (o := .lst (((goP row nums row.length).L ++ keptD (plD row.length) (goP row nums row.length).A).map Cl.sh)) (lt_of_at h3)
          have Fm := F.put (o := .lst (((goP row nums row.length).L ++ keptD (plD row.length) (goP row nums row.length).A).map Cl.sh)) (show s.length ≤ s.length + 2 by omega)
          generalize s2.set (s.length + 2) (.lst (((goP row nums row.length).L ++ keptD (plD row.length) (goP row nums row.length).A).map Cl.sh)) = s5 at m2 m3 Fm ⊢
          repeat walk_at "ds"
          refine ⟨_, _, snap_list m2, rfl, ?_⟩
          repeat walk_at "ds"
          refine ⟨_, _, snap_list m3, rfl, ?_⟩
          repeat walk_at "ds"
          have := q _ (Fm.trim (c := .sh (endD row nums)))
          unfold endD at this
          rw [List.length_map]
          exact this
end
end Ds.K10
namespace Ds.K10
open PySem PySem.Spec PyProof.Rows L2 Dn TL
/-- a deck at b -/
def Dq (b : Nat) (s : St) : Prop := ∃ (a d : Int) (r : List Int), s[b]? = some (.lst (((a :: d :: r).map PyData.int).map Cl.sh)) ∧ r.length ≤ 63
theorem Dq.lt {b : Nat} {s : St} (h : Dq b s) : b < s.length := by
  obtain ⟨_, _, _, h, _⟩ := h
  exact lt_of_at h
theorem Dq.of {b : Nat} {s s' : St} (h : Dq b s) (k : s'[b]? = s[b]?) : Dq b s' := by
  obtain ⟨a, d, r, h, q⟩ := h
  exact ⟨a, d, r, k.trans h, q⟩
theorem Dq.trim {b n : Nat} {k : Cl} {s : St} (h : Dq b s) (hb : b < n) : Dq b (trim n k s) := h.of (trim_get hb)
theorem Dq.app {b : Nat} {o : Ob} {s : St} (h : Dq b s) : Dq b (s ++ [o]) := h.of (app_old h.lt)
theorem Dq.set {b l : Nat} {o : Ob} {s : St} (h : Dq b s) (hl : b ≠ l) : Dq b (s.set l o) := h.of (set_other hl)
theorem Dq.fz {b : Nat} {s s' : St} (h : Dq b s) (f : Fz s s') : Dq b s' := h.of (f.2 _ h.lt)
theorem int_lst {xs : List Int} {i : Int} {n : Int} {j : Nat} (h : xs[j]? = some n) (hi : i = j) : atI ((xs.map PyData.int).map Cl.sh) i = some (.sh (.int n)) := by
  have hl := (List.getElem?_eq_some_iff.mp h).1
  unfold atI ixN
  rw [List.length_map, List.length_map, if_pos (by omega), if_pos (by omega), hi]
  simp [h]
theorem nl_join {ss : List Str} (h : ∀ s ∈ ss, Lt s) (hl : ss.length ≤ 6) : Ok 6 (Txt.join "" ss) ∧ 46 ∉ tl (Txt.join "" ss) := by
  obtain ⟨i1, i2⟩ := lt_flat ss h
  have e : tl (Txt.join "" ss) = ss.flatMap tl := Dn.tl_join ss
  refine ⟨⟨?_, fun c hc => ?_⟩, fun z => ?_⟩
  · rw [len_tl, e, i1]
    exact hl
  · rw [e] at hc
    have := i2 c hc
    omega
  · rw [e] at z
    have := i2 46 z
    omega
theorem Lo.join {ss : List Str} {z : Str} (h : ∀ s ∈ ss, Lt s) (hl : ss.length ≤ 6) (hz : z = "" ∨ z = "z") : Lo (Txt.join "" ss ++ "q" ++ z) := by
  obtain ⟨o, n⟩ := nl_join h hl
  have e1 : Ok 1 ("q" : Str) := Ok.lit _ _ (by decide)
  have e2 : Ok 1 z := by rcases hz with rfl | rfl <;> exact Ok.lit _ _ (by decide)
  refine ⟨(o.append e1).append e2, fun k => ?_⟩
  rw [tl_append, tl_append] at k
  rcases List.mem_append.mp k with k | k
  · rcases List.mem_append.mp k with k | k
    · exact n k
    · exact absurd k (by decide)
  · rcases hz with rfl | rfl <;> exact absurd k (by decide)
theorem Lo.lit (x : Str) (h : (decide (x.length ≤ 8) && (tl x).all (· < 128)) = true) (k : 46 ∉ tl x) : Lo x := ⟨Ok.lit _ _ h, k⟩
end Ds.K10
namespace Ds.K10
open PySem PySem.Spec PyProof.Rows L2 Dn TL
section
variable {b : Nat} {s : St} {Q : Cl → St → Prop}
def tailM : M Fl := (mSeq (mSet 3 (mSh (mBin dMod (mBin dMul (mBin dAdd (mBin dMod (mVar 2) (mC (PyData.int 2147483629))) (mBin dMul (mC (PyData.int 7919)) (mD (mIxC (mLo (mLV 0)) (mC (PyData.int 0)))))) (mC (PyData.int 48271))) (mC (PyData.int 2147483647)))))
  (mSeq (mSet 3 (mSh (mBin dMod (mBin dAdd (mBin dAdd (mBin dMul (mVar 3) (mVar 3)) (mBin dMul (mC (PyData.int 69621)) (mVar 3))) (mD (mIxC (mLo (mLV 0)) (mC (PyData.int 0))))) (mC (PyData.int 2147483587)))))
  (mRet (mSh (mBin dMod (mBin dDiv (mVar 3) (mC (PyData.int 64))) (mVar 1))))))
theorem tail_ {a d n v : Int} {r : List Int} {z3 : Cl} {R : Fl → Ev → St → Prop} (hx : s[b]? = some (.lst (((a :: d :: r).map PyData.int).map Cl.sh))) (hn : 0 < n) (q : ∀ (w : Int) (e : Ev), R (.rt (.sh (.int (w % n)))) e s) : Run tailM [.lo b, .sh (.int n), .sh (.int v), z3] s R := by
  unfold tailM
  repeat walk_at "ds"
  refine ⟨_, ixC_lo hx (int_lst (j := 0) rfl rfl), ?_⟩
  repeat walk_at "ds"
  refine ⟨_, ixC_lo hx (int_lst (j := 0) rfl rfl), ?_⟩
  repeat walk_at "ds"
  exact q _ _
theorem draw {n : Int} (S : Dq b s) (hn : 0 < n ∧ n < 1073741824) (h : ∀ (got : Int) (s' : St), 0 ≤ got → got < n → Dq b s' → Fr b s s' → Q (.sh (.int got)) s') : FRun f__law_draw [.lo b, .sh (.int n)] s Q := by
  have hlt := S.lt
  obtain ⟨a, d, r, hx, hr⟩ := S
  refine frun_fn rfl ?_
  unfold m__law_draw
  show RunX _ (mSeq _ (mSeq _ (mSeq _ tailM))) _ _ _
  repeat walk_at "ds"
  refine ⟨_, ixC_lo hx (int_lst (j := 0) rfl rfl), ?_⟩
  repeat walk_at "ds"
  refine ⟨_, _, _, hx, rfl, ixN_in (by decide) (by simp; omega), ?_⟩
  have e1 : (((a :: d :: r).map PyData.int).map Cl.sh).set (0 : Int).toNat (.sh (.int (a + 1))) = (((a + 1) :: d :: r).map PyData.int).map Cl.sh := rfl
  rw [e1]
  have hx1 : (s.set b (.lst ((((a + 1) :: d :: r).map PyData.int).map Cl.sh)))[b]? = some (.lst ((((a + 1) :: d :: r).map PyData.int).map Cl.sh)) := set_same hlt
  have l1 : (s.set b (.lst ((((a + 1) :: d :: r).map PyData.int).map Cl.sh))).length = s.length := by simp
  have F1 : Fr b s (s.set b (.lst ((((a + 1) :: d :: r).map PyData.int).map Cl.sh))) := Fr.set
  generalize s.set b (.lst ((((a + 1) :: d :: r).map PyData.int).map Cl.sh)) = s1 at hx1 l1 F1 ⊢
  repeat walk_at "ds"
  refine ⟨_, ixC_lo hx1 (int_lst (j := 1) rfl rfl), ?_⟩
  repeat walk_at "ds"
  refine ⟨_, ixC_lo hx1 (int_lst (j := 0) rfl rfl), ?_⟩
  repeat walk_at "ds"
  refine ⟨_, by unfold snaps; rw [snap_list hx1]; rfl, ?_⟩
  repeat walk_at "ds"
  refine two_dec (fun h6 => ?_) (fun h6 => ?_)
  · have h6 : (2 : Int) < ((((a + 1) :: d :: r).map PyData.int).length : Int) := h6
    rw [List.length_map, List.length_cons, List.length_cons] at h6
    rcases List.eq_nil_or_concat r with rfl | ⟨r', l, rfl⟩
    · simp at h6
    rw [List.concat_eq_append] at hx1 hr
    have hsn : ((((a + 1) :: d :: (r' ++ [l])).map PyData.int).map Cl.sh) = ((((a + 1) :: d :: r').map PyData.int).map Cl.sh) ++ [.sh (.int l)] := by simp
    rw [hsn] at hx1
    have hlen : r'.length ≤ 62 := by simp at hr; omega
    repeat walk_at "ds"
    refine ⟨_, .sh (.int l), hx1, ?_, ?_⟩
    · rw [List.length_append, List.length_singleton, Nat.add_sub_cancel, List.getElem?_append_right (Nat.le_refl _), Nat.sub_self]
      rfl
    rw [List.dropLast_concat]
    have hx2 : (s1.set b (.lst ((((a + 1) :: d :: r').map PyData.int).map Cl.sh)))[b]? = some (.lst ((((a + 1) :: d :: r').map PyData.int).map Cl.sh)) := set_same (by omega)
    have l2 : (s1.set b (.lst ((((a + 1) :: d :: r').map PyData.int).map Cl.sh))).length = s.length := by simp; omega
    have F2 : Fr b s (s1.set b (.lst ((((a + 1) :: d :: r').map PyData.int).map Cl.sh))) := F1.trans Fr.set
    generalize s1.set b (.lst ((((a + 1) :: d :: r').map PyData.int).map Cl.sh)) = s2 at hx2 l2 F2 ⊢
    repeat walk_at "ds"
    refine two_dec (fun h7 => ?_) (fun h7 => ?_)
    · repeat walk_at "ds"
      refine ⟨_, hx2, ?_⟩
      repeat walk_at "ds"
      refine ⟨_, hx2, Nat.lt_of_le_of_lt (show _ ≤ 100 by simp; omega) (by decide), ?_⟩
      have e3 : ((((a + 1) :: d :: r').map PyData.int).map Cl.sh) ++ [.sh (.int (l / n))] = (((a + 1) :: d :: (r' ++ [l / n])).map PyData.int).map Cl.sh := by simp
      rw [e3]
      repeat walk_at "ds"
      rw [trim_len (by simp; omega)]
      exact h _ _ (Int.emod_nonneg _ (by omega)) (Int.emod_lt_of_pos _ hn.1) ⟨_, _, _, set_same (by omega), by simp; omega⟩ (F2.trans Fr.set)
    · repeat walk_at "ds"
      refine RunX.lift (tail_ hx2 hn.1 fun w e => ?_)
      repeat walk_at "ds"
      rw [trim_len l2]
      exact h _ _ (Int.emod_nonneg _ (by omega)) (Int.emod_lt_of_pos _ hn.1) ⟨_, _, _, hx2, by omega⟩ F2
  · repeat walk_at "ds"
    refine RunX.lift (tail_ hx1 hn.1 fun w e => ?_)
    repeat walk_at "ds"
    rw [trim_len l1]
    exact h _ _ (Int.emod_nonneg _ (by omega)) (Int.emod_lt_of_pos _ hn.1) ⟨_, _, _, hx1, hr⟩ F1
end
end Ds.K10
namespace Ds.K10
open PySem PySem.Spec PyProof.Rows L2 Dn TL
theorem enum_at {ds : List D} {i : Nat} {d : D} (h : (enumD ds)[i]? = some d) : ∃ x, ds[i]? = some x ∧ d = .tuple [.int i, x] := by
  rw [enumD_at] at h
  obtain ⟨x, h1, h2⟩ := Option.map_eq_some_iff.mp h
  exact ⟨x, h1, h2.symm⟩
theorem cut_lo {xs : List D} {k : Nat} : Dn.cutD xs none (some (k : Int)) = xs.take k := by
  unfold Dn.cutD HT.sIx
  dsimp only
  rw [if_neg (by omega), Int.toNat_natCast, Nat.sub_zero, List.drop_zero]
  by_cases h : k ≤ xs.length
  · rw [Nat.min_eq_left h]
  · rw [Nat.min_eq_right (by omega), List.take_length, List.take_of_length_le (by omega)]
theorem cut_hi {xs : List D} {k : Nat} : Dn.cutD xs (some (k : Int)) none = xs.drop k := by
  unfold Dn.cutD HT.sIx
  dsimp only
  rw [if_neg (by omega), Int.toNat_natCast]
  by_cases h : k ≤ xs.length
  · rw [Nat.min_eq_left h]
    exact List.take_of_length_le (by rw [List.length_drop]; exact Nat.le_refl _)
  · rw [Nat.min_eq_right (by omega), Nat.sub_self, List.take_zero, List.drop_of_length_le (by omega)]
theorem cut_mid {xs : List D} {j k : Nat} (h : j ≤ k) (hk : k ≤ xs.length) : Dn.cutD xs (some (j : Int)) (some (k : Int)) = (xs.drop j).take (k - j) := by
  unfold Dn.cutD HT.sIx
  dsimp only
  rw [if_neg (by omega), if_neg (by omega), Int.toNat_natCast, Int.toNat_natCast, Nat.min_eq_left hk, Nat.min_eq_left (by omega)]
def words8 : List D := [.str "same", .str "way", .str "left", .str "far", .str "twice", .str "unread", .str "ended", .str "on"]
def Lo7 (x : Str) : Prop := Lo x ∧ x.length ≤ 7
theorem Lo7.join {ss : List Str} {z : Str} (h : ∀ s ∈ ss, Lt s) (hl : ss.length ≤ 5) (hz : z = "" ∨ z = "z") : Lo7 (Txt.join "" ss ++ "q" ++ z) := by
  refine ⟨Lo.join h (by omega) hz, ?_⟩
  obtain ⟨i1, _⟩ := lt_flat ss h
  have e : tl (Txt.join "" ss) = ss.flatMap tl := Dn.tl_join ss
  have h1 : (Txt.join "" ss : Str).length ≤ 5 := by rw [len_tl, e, i1]; exact hl
  have h2 : ("q" : Str).length = 1 := rfl
  have h3 : z.length ≤ 1 := by rcases hz with rfl | rfl <;> decide
  rw [len_append, len_append]
  omega
theorem words8_lo : ∀ d ∈ words8, ∃ x, d = .str x ∧ Lo7 x := fun d hd => by
  unfold words8 at hd
  simp only [List.mem_cons, List.not_mem_nil, or_false] at hd
  rcases hd with rfl | rfl | rfl | rfl | rfl | rfl | rfl | rfl <;> exact ⟨_, rfl, Lo.lit _ (by decide) (by decide), by decide⟩
end Ds.K10
namespace Ds.K10
open PySem PySem.Spec PyProof.Rows L2 Dn TL
section
variable {b : Nat} {s : St} {Q : Cl → St → Prop}
theorem deck_ {ns : List Int} (hns : ns.length ≤ 63) (h : ∀ s', Dq s.length s' → Fz s s' → Q (.lo s.length) s') : FRun f__law_deck [.sh (.list (ns.map PyData.int))] s Q := by
  refine frun_fn rfl ?_
  unfold m__law_deck
  repeat walk_at "ds"
  have ec : Dn.cutD (ns.map PyData.int) none (some 63) = ns.map PyData.int := (cut_lo (k := 63)).trans (List.take_of_length_le (by rw [List.length_map]; exact hns))
  rw [ec]
  refine ⟨by unfold enumD; simp; exact line_of (by omega), ?_⟩
  refine run_compL _ (fun i ys e s' => s' = s ∧ (∃ is : List Int, ys = is.map PyData.int) ∧ e = [.sh (.list (ns.map PyData.int)), .sh (.list (ns.map PyData.int)), .no, .no]) ⟨rfl, ⟨[], rfl⟩, rfl⟩ (fun i d ys e s' hd hJ => ?_) fun ys e s' hJ => ?_
  · obtain ⟨rfl, ⟨is, rfl⟩, rfl⟩ := hJ
    obtain ⟨x, hx, rfl⟩ := enum_at hd
    obtain ⟨n, _, rfl⟩ := List.mem_map.mp (List.mem_of_getElem? hx)
    refine ⟨_, rfl, ?_⟩
    repeat walk_at "ds"
    exact ⟨rfl, ⟨is ++ [_], by simp; rfl⟩, rfl⟩
  · obtain ⟨rfl, ⟨is, rfl⟩, rfl⟩ := hJ
    refine ⟨_, shL_map _, ?_⟩
    repeat walk_at "ds"
    refine bx_sum ?_
    repeat walk_at "ds"
    refine ⟨_, _, rfl, rfl, line_of (by simp; omega), ?_⟩
    repeat walk_at "ds"
    rw [trim_lo (Nat.le_refl _)]
    rw [← List.map_reverse]
    exact h _ ⟨_, _, ns.reverse, app_new, by simpa using hns⟩ Fz.app
theorem some__ {few most : Int} (S : Dq b s) (hf : 0 ≤ few ∧ few < 1000) (h : ∀ (got : Int) (s' : St), (0 ≤ got ∧ got ≤ few) ∨ got = most → Dq b s' → Fr b s s' → Q (.sh (.int got)) s') : FRun f__law_some [.lo b, .sh (.int few), .sh (.int most)] s Q := by
  refine frun_fn rfl ?_
  unfold m__law_some
  repeat walk_at "ds"
  refine draw S (by omega) fun n1 s1 a1 b1 S1 F1 => ?_
  repeat walk_at "ds"
  refine draw S1 (by omega) fun n2 s2 a2 b2 S2 F2 => ?_
  repeat walk_at "ds"
  have F := F1.trans F2
  by_cases hn : n2 = 1
  · rw [decide_eq_true hn]
    refine ⟨.int most, rfl, ?_⟩
    repeat walk_at "ds"
    exact h _ _ (.inr rfl) (S2.trim S.lt) F.trim
  · rw [decide_eq_false hn]
    refine ⟨.int n1, rfl, ?_⟩
    repeat walk_at "ds"
    exact h _ _ (.inl (by omega)) (S2.trim S.lt) F.trim
theorem one_of {xs : List D} (S : Dq b s) (hx : 0 < xs.length ∧ xs.length ≤ 100) (h : ∀ (d : D) (s' : St), d ∈ xs → Dq b s' → Fr b s s' → Q (.sh d) s') : FRun f__law_one_of [.lo b, .sh (.list xs)] s Q := by
  refine frun_fn rfl ?_
  unfold m__law_one_of
  repeat walk_at "ds"
  refine draw S (by omega) fun n1 s1 a1 b1 S1 F1 => ?_
  repeat walk_at "ds"
  refine bx_ix_in a1 b1 fun d hd => ?_
  repeat walk_at "ds"
  exact h d _ hd (S1.trim S.lt) F1.trim
theorem names_ (S : Dq b s) (h : ∀ (xs : List Str) (s' : St), (∀ x ∈ xs, Lo7 x) → xs.length = 17 → Dq b s' → Fr b s s' → Q (.sh (.list (xs.map PyData.str))) s') : FRun f__law_names [.lo b, .sh (.int 17)] s Q := by
  have hlt := S.lt
  refine frun_fn rfl ?_
  unfold m__law_names
  repeat walk_at "ds"
  refine draw S (by omega) fun n1 s1 a1 b1 S1 F1 => ?_
  repeat walk_at "ds"
  refine ⟨by rw [rngD_length]; exact line_of (by omega), ?_⟩
  refine run_compL _ (fun i ys e s' => ∃ (ss : List Str), ys = ss.map PyData.str ∧ ss.length = i ∧ (∀ s ∈ ss, Lt s) ∧ Dq b s' ∧ Fr b s s' ∧ e = [.lo b, .sh (.int 17), .sh (.str abc), .no, .no, .no, .no, .no]) ?_ (fun i d ys e s' hd hJ => ?_) fun ys e s' hJ => ?_
  · exact ⟨[], rfl, rfl, by simp, S1, F1, rfl⟩
  · obtain ⟨ss, rfl, e2, e3, S, F, rfl⟩ := hJ
    refine ⟨_, rfl, ?_⟩
    repeat walk_at "ds"
    refine draw S (by omega) fun n2 s2 a2 b2 S2 F2 => ?_
    repeat walk_at "ds"
    refine ix_abc a2 b2 fun t ht => ?_
    refine ⟨ss ++ [t], by simp, by simp [e2], fun u hu => ?_, S2, F.trans F2, rfl⟩
    rcases List.mem_append.mp hu with q | q
    · exact e3 u q
    · simp at q; subst q; exact ht
  · obtain ⟨ss, rfl, e2, e3, S2, F2, rfl⟩ := hJ
    rw [rngD_length] at e2
    repeat walk_at "ds"
    have h2lt := S2.lt
    have at3 : (s' ++ [Ob.lst ((ss.map PyData.str).map Cl.sh)])[s'.length]? = some (.lst ((ss.map PyData.str).map Cl.sh)) := app_new
    refine ⟨_, by unfold snaps; rw [snap_list at3]; rfl, ?_⟩
    repeat walk_at "ds"
    rw [List.length_map, e2]
    have S3 : Dq b (s' ++ [Ob.lst ((ss.map PyData.str).map Cl.sh)]) := S2.app
    have F3 : Fr b s (s' ++ [Ob.lst ((ss.map PyData.str).map Cl.sh)]) := F2.trans Fr.app
    refine draw S3 (by omega) fun n3 s3 a3 b3 S3 F3' => ?_
    repeat walk_at "ds"
    refine draw S3 (by omega) fun n4 s4 a4 b4 S4 F4 => ?_
    repeat walk_at "ds"
    have at5 := (F3'.trans F4).at_ at3 (by omega)
    have l5 : s'.length < s4.length := lt_of_at at5
    have F05 : Fr b s s4 := F3.trans (F3'.trans F4)
    have le2 := F2.1
    refine run_forL _ (fun i e s7 => ∃ (ss xs : List Str) (z : Cl), ss.length = (1 + n1).toNat ∧ (∀ s ∈ ss, Lt s) ∧ (∀ x ∈ xs, Lo7 x) ∧ xs.length = i ∧ Dq b s7 ∧ Fr b s s7 ∧ s7[s'.length]? = some (.lst ((ss.map PyData.str).map Cl.sh)) ∧ s7[s4.length]? = some (.lst ((xs.map PyData.str).map Cl.sh)) ∧ e = [.lo b, .sh (.int 17), .sh (.str abc), .lo s'.length, .sh (.int n3), .sh (.int n4), .lo s4.length, z]) ?_ (fun i d e s7 hd hI => ?_) fun e s7 hI => ?_
    · exact ⟨ss, [], _, e2, e3, by simp, rfl, S4.app, F05.trans Fr.app, (app_old l5).trans at5, app_new, rfl⟩
    · obtain ⟨ss, xs, z, f1, f2, f3, f4, S7, F7, g1, g2, rfl⟩ := hI
      obtain ⟨rfl, hi⟩ := rngD_at hd
      refine ⟨_, rfl, ?_⟩
      repeat walk_at "ds"
      refine ix_abc (Int.emod_nonneg _ (by omega)) (Int.emod_lt_of_pos _ (by omega)) fun t ht => ?_
      repeat walk_at "ds"
      refine ⟨_, _, n3.toNat, g1, rfl, ixN_in a3 (by simp; omega), ?_⟩
      rw [← List.map_set, ← List.map_set]
      have k1 : (ss.set n3.toNat t).length = (1 + n1).toNat := by rw [List.length_set, f1]
      have k2 : ∀ u ∈ ss.set n3.toNat t, Lt u := fun u hu => (List.mem_or_eq_of_mem_set hu).elim (f2 u) fun q => q ▸ ht
      have k3 : joinN ("" : Str) (ss.set n3.toNat t) ≤ (ss.set n3.toNat t).length * 1 := joinN_le fun t ht => (k2 t ht).ok.1
      have kl : (Txt.join "" (ss.set n3.toNat t) : Str).length ≤ 6 := (nl_join k2 (by omega)).1.1
      have kq : (("q" : Str).length) = 1 := rfl
      have kz : (("z" : Str).length) = 1 := rfl
      have g1' : ∀ o, (s7.set s'.length o)[s'.length]? = some o := fun o => set_same (lt_of_at g1)
      have g2' : ∀ o, (s7.set s'.length o)[s4.length]? = some (.lst ((xs.map PyData.str).map Cl.sh)) := fun o => (set_other (by omega)).trans g2
      repeat walk_at "ds"
      refine ⟨_, g2' _, ?_⟩
      repeat walk_at "ds"
      refine ⟨_, snap_list (g1' _), ?_⟩
      refine bx_joinO (by omega) ?_
      have em : (0 + (i : Int)) % 2 = 0 ∨ (0 + (i : Int)) % 2 = 1 := by omega
      have rz : strRep "z" ((0 + (i : Int)) % 2) = "" ∨ strRep "z" ((0 + (i : Int)) % 2) = "z" := by
        rcases em with er | er
        · rw [er]; exact .inl rfl
        · rw [er]; exact .inr rfl
      have hrep : -1000000 ≤ (0 + (i : Int)) % 2 ∧ (0 + (i : Int)) % 2 ≤ 1000000 ∧ ("z" : Str).length ≤ 16 := by
        refine ⟨?_, ?_, by decide⟩ <;> rcases em with er | er <;> rw [er] <;> decide
      generalize hr : strRep "z" ((0 + (i : Int)) % 2) = rep at rz
      have rl : rep.length ≤ 1 := by
        rcases rz with rfl | rfl <;> decide
      have kk : (Txt.join "" (ss.set n3.toNat t) ++ "q" : Str).length ≤ 7 := by rw [len_append, kq]; omega
      repeat walk_at "ds"
      rw [hr]
      refine bx_add_str (line_of (by omega)) ?_
      refine ⟨_, g2' _, line_of (by simp; omega), ?_⟩
      refine turn_nx ?_
      have l7 : s4.length < s7.length := lt_of_at g2
      refine ⟨ss.set n3.toNat t, xs ++ [(Txt.join "" (ss.set n3.toNat t) ++ "q" ++ rep)], _, k1, k2, fun x hx => ?_, by simp [f4], (S7.set (by omega)).set (by omega), (F7.put le2).put (by omega), (set_other (by omega)).trans (g1' _), ?_, rfl⟩
      · rcases List.mem_append.mp hx with q | q
        · exact f3 x q
        · simp at q; subst q; exact Lo7.join k2 (by omega) rz
      · rw [set_same (by simp; omega)]
        simp
    · obtain ⟨ss, xs, z, f1, f2, f3, f4, S7, F7, g1, g2, rfl⟩ := hI
      rw [rngD_length] at f4
      have f4 : xs.length = 17 := f4
      repeat walk_at "ds"
      refine draw S7 (by omega) fun n5 s8 a8 b8 S8 F8 => ?_
      have g3 := F8.at_ g2 (by omega)
      have F9 := F7.trans F8
      have fin : ∀ (xs : List Str) (s9 : St), (∀ x ∈ xs, Lo7 x) → xs.length = 17 → Dq b s9 → Fr b s s9 → s9[s4.length]? = some (.lst ((xs.map PyData.str).map Cl.sh)) → Q (.sh (.list (xs.map PyData.str))) (trim s.length (.sh (.list (xs.map PyData.str))) (s9.set s4.length .gone)) := fun xs s9 hx hl D F hg =>
        h xs _ hx hl ((D.set (by omega)).trim hlt) (F.put (by omega)).trim
      repeat walk_at "ds"
      refine two_dec (fun h5 => ?_) (fun h5 => ?_)
      · repeat walk_at "ds"
        refine bx_ix_in (xs := words8) (Int.emod_nonneg _ (by omega)) (Int.emod_lt_of_pos _ (by omega)) fun d hd => ?_
        obtain ⟨x, rfl, hx⟩ := words8_lo d hd
        repeat walk_at "ds"
        refine draw S8 (by omega) fun n6 s9 a9 b9 S9 F9' => ?_
        have g4 := F9'.at_ g3 (by omega)
        repeat walk_at "ds"
        refine ⟨_, _, n6.toNat, g4, rfl, ixN_in a9 (by simp; omega), ?_⟩
        rw [← List.map_set, ← List.map_set]
        have l9 := lt_of_at g4
        have g5 := set_same (s := s9) (o := .lst (((xs.set n6.toNat x).map PyData.str).map Cl.sh)) l9
        have D9 := S9.set (o := .lst (((xs.set n6.toNat x).map PyData.str).map Cl.sh)) (show b ≠ s4.length by omega)
        have FA := (F9.trans F9').put (o := .lst (((xs.set n6.toNat x).map PyData.str).map Cl.sh)) (show s.length ≤ s4.length by omega)
        generalize s9.set s4.length (.lst (((xs.set n6.toNat x).map PyData.str).map Cl.sh)) = sA at g5 D9 FA ⊢
        repeat walk_at "ds"
        refine ⟨_, _, g5, shL_map _, ?_⟩
        repeat walk_at "ds"
        exact fin _ _ (fun y hy => (List.mem_or_eq_of_mem_set hy).elim (f3 y) fun e => e ▸ hx) (by rw [List.length_set, f4]) D9 FA g5
      · repeat walk_at "ds"
        refine ⟨_, _, g3, shL_map _, ?_⟩
        repeat walk_at "ds"
        exact fin _ _ f3 f4 S8 F9 g3
end
end Ds.K10
namespace Ds.K10
open PySem PySem.Spec PyProof.Rows L2 Dn TL
def caseK (Bs Ws : List Str) : List (Key × Cl) := [(.inr "boxes", .sh (.list (Bs.map PyData.str))), (.inr "worths", .sh (.list (Ws.map PyData.str)))]
theorem er_map : ∀ (r : List Str) (k : Nat), (((r.map PyData.str).map Cl.sh).eraseIdx (k : Int).toNat) = (((r.eraseIdx k).map PyData.str).map Cl.sh)
  | [], _ => rfl
  | _ :: _, 0 => rfl
  | x :: r, k + 1 => by
    have ih := er_map r k
    rw [Int.toNat_natCast] at ih ⊢
    show _ :: ((r.map PyData.str).map Cl.sh).eraseIdx k = _
    rw [ih]
    rfl
theorem mer2 (x1 x2 : Cl) : mergeC [] [(Sum.inr (Str.ofString "boxes"), x1), (Sum.inr (Str.ofString "worths"), x2)] = ([(.inr "boxes", x1), (.inr "worths", x2)] : List (Key × Cl)) := by
  unfold mergeC putC
  simp [List.foldl]
  decide
end Ds.K10
namespace Ds.K10
open PySem PySem.Spec PyProof.Rows L2 Dn TL
section
variable {b : Nat} {s : St} {Q : Cl → St → Prop}
def lastB : M Fl := (mRet (mSh (mSl (mSlC (mLo (mLV 2)) (mPart (mD (mCall f__law_draw [(mLo (mLV 0)), (mSh (mC (PyData.int 4)))]))) mNoPart) mNoPart (mPart (mBin dAdd (mC (PyData.int 3)) (mD (mCall f__law_some [(mLo (mLV 0)), (mSh (mC (PyData.int 2))), (mSh (mC (PyData.int 5)))])))))))
theorem boxes_ {xs : List Str} (S : Dq b s) (hx : ∀ x ∈ xs, Lo7 x) (hl : xs.length = 17) (h : ∀ (Bs : List Str) (s' : St), (∀ x ∈ Bs, Bxo x) → 3 ≤ Bs.length ∧ Bs.length ≤ 8 → Dq b s' → Fr b s s' → Q (.sh (.list (Bs.map PyData.str))) s') : FRun f__law_boxes [.lo b, .sh (.list (xs.map PyData.str))] s Q := by
  have hlt := S.lt
  match xs, hl, hx with
  | [x0, x1, x2, x3, x4, x5, x6, x7, x8, x9, xa, xb, xc, xd, xe, xf, xg], _, hx =>
  have L0 := (hx x0 (by simp)).1
  have L1 := (hx x1 (by simp)).1
  have L2 := (hx x2 (by simp)).1
  have L3 := (hx x3 (by simp)).1
  have L4 := (hx x4 (by simp)).1
  have L5 := (hx x5 (by simp)).1
  have dl : ((".": Str).length) = 1 := rfl
  have kl : (("k.": Str).length) = 2 := rfl
  have h0 : x0.length + (".": Str).length ≤ sizeLine := line_of (by have := L0.1.1; omega)
  have h3 : x3.length + (".": Str).length ≤ sizeLine := line_of (by have := L3.1.1; omega)
  have h0k : x0.length + ("k.": Str).length ≤ sizeLine := line_of (by have := L0.1.1; omega)
  have h01 : (x0 ++ "." : Str).length + x1.length ≤ sizeLine := line_of (by rw [len_append]; have := L0.1.1; have := L1.1.1; omega)
  have h02 : (x0 ++ "." : Str).length + x2.length ≤ sizeLine := line_of (by rw [len_append]; have := L0.1.1; have := L2.1.1; omega)
  have h30 : (x3 ++ "." : Str).length + x0.length ≤ sizeLine := line_of (by rw [len_append]; have := L3.1.1; have := L0.1.1; omega)
  have h0k0 : (x0 ++ "k." : Str).length + x0.length ≤ sizeLine := line_of (by rw [len_append]; have := L0.1.1; omega)
  refine frun_fn rfl ?_
  unfold m__law_boxes
  show RunX _ (mSeq _ (mSeq _ (mSeq _ lastB))) _ _ _
  repeat walk_at "ds"
  have a1 : (s ++ [Ob.lst [Cl.sh (.str x0), .sh (.str x1), .sh (.str x2), .sh (.str (x0 ++ "." ++ x1)), .sh (.str (x0 ++ "." ++ x2)), .sh (.str x3)]])[s.length]? = some (.lst (([.str x0, .str x1, .str x2, .str (x0 ++ "." ++ x1), .str (x0 ++ "." ++ x2), .str x3] : List D).map Cl.sh)) := app_new
  refine ⟨_, _, snap_list a1, rfl, line_of (by show 9 ≤ 16777216; decide), ?_⟩
  repeat walk_at "ds"
  have B0 : ∀ x ∈ [x0, x1, x2, x0 ++ "." ++ x1, x0 ++ "." ++ x2, x3, x3 ++ "." ++ x0, x4, x5], Bxo x := fun x hx => by
    simp only [List.mem_cons, List.not_mem_nil, or_false] at hx
    rcases hx with rfl | rfl | rfl | rfl | rfl | rfl | rfl | rfl | rfl
    · exact .one L0
    · exact .one L1
    · exact .one L2
    · exact .two L0 L1
    · exact .two L0 L2
    · exact .one L3
    · exact .two L3 L0
    · exact .one L4
    · exact .one L5
  have K0 : Bxo (x0 ++ "k." ++ x0) := by
    have o7 := (hx x0 (by simp)).2
    have ok : Lo (x0 ++ "k") := by
      refine ⟨⟨?_, fun c hc => ?_⟩, fun z => ?_⟩
      · rw [len_append]
        show x0.length + 1 ≤ 8
        omega
      · rw [tl_append] at hc
        rcases List.mem_append.mp hc with z | z
        · exact L0.1.2 c z
        · have e : tl ("k" : Str) = [107] := by decide
          rw [e] at z
          simp at z
          omega
      · rw [tl_append] at z
        rcases List.mem_append.mp z with z | z
        · exact L0.2 z
        · exact absurd z (by decide)
    have e : x0 ++ "k." ++ x0 = (x0 ++ "k") ++ "." ++ x0 := ext_tl (by
      rw [tl_append, tl_append, tl_append, tl_append, tl_append]
      have e : tl ("k." : Str) = tl ("k" : Str) ++ tl ("." : Str) := by decide
      rw [e]
      simp)
    rw [e]
    exact .two ok L0
  have a2 : (s ++ [Ob.lst [Cl.sh (.str x0), .sh (.str x1), .sh (.str x2), .sh (.str (x0 ++ "." ++ x1)), .sh (.str (x0 ++ "." ++ x2)), .sh (.str x3)]]).length = s.length + 1 := by simp
  rw [a2]
  have D0 := (S.app (o := Ob.lst [Cl.sh (.str x0), .sh (.str x1), .sh (.str x2), .sh (.str (x0 ++ "." ++ x1)), .sh (.str (x0 ++ "." ++ x2)), .sh (.str x3)])).app (o := Ob.lst ((([x0, x1, x2, x0 ++ "." ++ x1, x0 ++ "." ++ x2, x3, x3 ++ "." ++ x0, x4, x5] : List Str).map PyData.str).map Cl.sh))
  have F0 : Fr b s (s ++ [Ob.lst [Cl.sh (.str x0), .sh (.str x1), .sh (.str x2), .sh (.str (x0 ++ "." ++ x1)), .sh (.str (x0 ++ "." ++ x2)), .sh (.str x3)]] ++ [Ob.lst ((([x0, x1, x2, x0 ++ "." ++ x1, x0 ++ "." ++ x2, x3, x3 ++ "." ++ x0, x4, x5] : List Str).map PyData.str).map Cl.sh)]) := Fr.app.trans Fr.app
  have g0 : (s ++ [Ob.lst [Cl.sh (.str x0), .sh (.str x1), .sh (.str x2), .sh (.str (x0 ++ "." ++ x1)), .sh (.str (x0 ++ "." ++ x2)), .sh (.str x3)]] ++ [Ob.lst ((([x0, x1, x2, x0 ++ "." ++ x1, x0 ++ "." ++ x2, x3, x3 ++ "." ++ x0, x4, x5] : List Str).map PyData.str).map Cl.sh)])[s.length + 1]? = some (.lst ((([x0, x1, x2, x0 ++ "." ++ x1, x0 ++ "." ++ x2, x3, x3 ++ "." ++ x0, x4, x5] : List Str).map PyData.str).map Cl.sh)) := by
    rw [← a2]
    exact app_new
  have es : (s ++ [Ob.lst [Cl.sh (.str x0), .sh (.str x1), .sh (.str x2), .sh (.str (x0 ++ "." ++ x1)), .sh (.str (x0 ++ "." ++ x2)), .sh (.str x3)]] ++ [Ob.lst (List.map Cl.sh ([.str x0, .str x1, .str x2, .str (x0 ++ "." ++ x1), .str (x0 ++ "." ++ x2), .str x3] ++ [.str (x3 ++ "." ++ x0), .str x4, .str x5]))]) = (s ++ [Ob.lst [Cl.sh (.str x0), .sh (.str x1), .sh (.str x2), .sh (.str (x0 ++ "." ++ x1)), .sh (.str (x0 ++ "." ++ x2)), .sh (.str x3)]] ++ [Ob.lst ((([x0, x1, x2, x0 ++ "." ++ x1, x0 ++ "." ++ x2, x3, x3 ++ "." ++ x0, x4, x5] : List Str).map PyData.str).map Cl.sh)]) := rfl
  clear a1 a2
  have fin : ∀ (L : List Str) (s1 : St), (∀ x ∈ L, Bxo x) → L.length = 9 → Dq b s1 → Fr b s s1 → s1[s.length + 1]? = some (.lst ((L.map PyData.str).map Cl.sh)) → Run lastB [.lo b, .sh (.list ([x0, x1, x2, x3, x4, x5, x6, x7, x8, x9, xa, xb, xc, xd, xe, xf, xg].map PyData.str)), .lo (s.length + 1)] s1 fun fl e1 s1 => (fl = .nx → Q (.sh .none) (trim s.length (.sh .none) s1)) ∧ (∀ c, fl = .rt c → Q c (trim s.length c s1)) ∧ fl ≠ .bk ∧ fl ≠ .ct := fun L s1 hL hl9 D F g => by
    unfold lastB
    repeat walk_at "ds"
    refine draw D (by omega) fun n1 s2 c1 c2 D2 F2 => ?_
    have g2 := F2.at_ g (by omega)
    repeat walk_at "ds"
    refine ⟨_, snap_list g2, ?_⟩
    repeat walk_at "ds"
    obtain ⟨k, rfl⟩ := Int.eq_ofNat_of_zero_le c1
    rw [cut_hi]
    refine some__ D2 (by decide) fun v s3 hv D3 F3 => ?_
    repeat walk_at "ds"
    obtain ⟨v, rfl⟩ := Int.eq_ofNat_of_zero_le (show 0 ≤ v by omega)
    have ev : (3 + (v : Int)) = ((3 + v : Nat) : Int) := by omega
    rw [ev, cut_lo, ← List.map_drop, ← List.map_take]
    refine h _ _ (fun x hx => hL x (List.mem_of_mem_drop (List.mem_of_mem_take hx))) ?_ (D3.trim hlt) (F.trans (F2.trans F3)).trim
    rw [List.length_take, List.length_drop, hl9]
    omega
  refine draw D0 (by omega) fun n1 s2 c1 c2 D2 F2 => ?_
  have g2 := F2.at_ g0 (by omega)
  have F3 := F0.trans F2
  repeat walk_at "ds"
  refine two_dec (fun h5 => ?_) (fun h5 => ?_)
  · repeat walk_at "ds"
    refine ⟨_, _, 5, g2, rfl, rfl, ?_⟩
    rw [← List.map_set, ← List.map_set]
    repeat walk_at "ds"
    refine fin _ _ (fun y hy => (List.mem_or_eq_of_mem_set hy).elim (B0 y) fun e => e ▸ K0) (by simp) (D2.set (by omega)) (F3.put (by omega)) (set_same (lt_of_at g2))
  · repeat walk_at "ds"
    exact fin _ _ B0 rfl D2 F3 g2
theorem picked_ {Bs : List Str} {many : Int} (S : Dq b s) (hB : Bs.length ≤ 8) (hm : 0 ≤ many ∧ many ≤ 100) (h : ∀ (xs : List Str) (s' : St), (∀ x ∈ xs, x ∈ Bs) → xs.length ≤ 8 → Dq b s' → Fr b s s' → Q (.sh (.tuple (xs.map PyData.str))) s') : FRun f__law_picked [.lo b, .sh (.list (Bs.map PyData.str)), .sh (.int many)] s Q := by
  have hlt := S.lt
  refine frun_fn rfl ?_
  unfold m__law_picked
  repeat walk_at "ds"
  refine ⟨_, _, rfl, rfl, ?_⟩
  repeat walk_at "ds"
  have e1 : (s ++ [Ob.lst ((Bs.map PyData.str).map Cl.sh)]).length = s.length + 1 := by simp
  have r0 : (s ++ [Ob.lst ((Bs.map PyData.str).map Cl.sh)] ++ [Ob.lst []])[s.length]? = some (.lst ((Bs.map PyData.str).map Cl.sh)) := by
    rw [app_old (by simp)]
    exact app_new
  have t0 : (s ++ [Ob.lst ((Bs.map PyData.str).map Cl.sh)] ++ [Ob.lst []])[s.length + 1]? = some (.lst ((([] : List Str).map PyData.str).map Cl.sh)) := by
    rw [← e1]
    exact app_new
  rw [e1]
  have D0 := (S.app (o := Ob.lst ((Bs.map PyData.str).map Cl.sh))).app (o := Ob.lst [])
  have F0 : Fr b s (s ++ [Ob.lst ((Bs.map PyData.str).map Cl.sh)] ++ [Ob.lst []]) := Fr.app.trans Fr.app
  generalize s ++ [Ob.lst ((Bs.map PyData.str).map Cl.sh)] ++ [Ob.lst []] = s0 at r0 t0 D0 F0 ⊢
  refine ⟨_, by unfold snaps; rw [snap_list r0]; rfl, ?_⟩
  repeat walk_at "ds"
  obtain ⟨v, hv, hvl⟩ : ∃ v : Nat, (if ((Bs.map PyData.str).length : Int) < many then ((Bs.map PyData.str).length : Int) else many) = (v : Int) ∧ v ≤ Bs.length := by
    rw [List.length_map]
    refine ⟨(if (Bs.length : Int) < many then (Bs.length : Int) else many).toNat, ?_, ?_⟩ <;> split <;> omega
  rw [hv]
  have ev : (v : Int).toNat = v := by omega
  rw [ev]
  refine run_forL _ (fun i e s' => ∃ (rest found : List Str) (z : Cl), rest.length + i = Bs.length ∧ found.length = i ∧ (∀ x ∈ rest, x ∈ Bs) ∧ (∀ x ∈ found, x ∈ Bs) ∧ Dq b s' ∧ Fr b s s' ∧ s'[s.length]? = some (.lst ((rest.map PyData.str).map Cl.sh)) ∧ s'[s.length + 1]? = some (.lst ((found.map PyData.str).map Cl.sh)) ∧ e = [.lo b, .sh (.list (Bs.map PyData.str)), .sh (.int many), .lo s.length, .lo (s.length + 1), z]) ⟨Bs, [], _, rfl, rfl, fun _ h => h, by simp, D0, F0, r0, t0, rfl⟩ (fun i d e s' hd hI => ?_) fun e s' hI => ?_
  · obtain ⟨rest, found, z, f1, f2, f3, f4, D, F, g1, g2, rfl⟩ := hI
    obtain ⟨rfl, hi⟩ := rngD_at hd
    refine ⟨_, rfl, ?_⟩
    repeat walk_at "ds"
    refine ⟨_, g2, ?_⟩
    repeat walk_at "ds"
    refine ⟨_, g1, ?_⟩
    repeat walk_at "ds"
    refine ⟨_, by unfold snaps; rw [snap_list g1]; rfl, ?_⟩
    repeat walk_at "ds"
    rw [List.length_map]
    refine draw D (by omega) fun n1 s2 c1 c2 D2 F2 => ?_
    have k1 := F2.at_ g1 (by omega)
    have k2 := F2.at_ g2 (by omega)
    repeat walk_at "ds"
    obtain ⟨k, rfl⟩ := Int.eq_ofNat_of_zero_le c1
    have hk : k < rest.length := by omega
    refine ⟨_, (k : Int), .sh (.str rest[k]), k1, rfl, ⟨by omega, by rw [List.length_map, List.length_map]; omega, line_of (by rw [List.length_map, List.length_map]; omega)⟩, by simp [hk], ?_⟩
    have er : (((rest.map PyData.str).map Cl.sh).eraseIdx (k : Int).toNat) = (((rest.eraseIdx k).map PyData.str).map Cl.sh) := er_map rest k
    rw [er]
    have m2 := (set_other (s := s2) (l := s.length) (o := .lst (((rest.eraseIdx k).map PyData.str).map Cl.sh)) (show s.length + 1 ≠ s.length by omega)).trans k2
    have m1 := set_same (s := s2) (o := .lst (((rest.eraseIdx k).map PyData.str).map Cl.sh)) (lt_of_at k1)
    have D3 := D2.set (o := .lst (((rest.eraseIdx k).map PyData.str).map Cl.sh)) (show b ≠ s.length by omega)
    have F3 := (F.trans F2).put (o := .lst (((rest.eraseIdx k).map PyData.str).map Cl.sh)) (Nat.le_refl s.length)
    generalize s2.set s.length (.lst (((rest.eraseIdx k).map PyData.str).map Cl.sh)) = s3 at m1 m2 D3 F3 ⊢
    repeat walk_at "ds"
    refine ⟨_, m2, Nat.lt_of_le_of_lt (show _ ≤ 100 by rw [List.length_map, List.length_map]; omega) (by decide), ?_⟩
    have e3 : ((found.map PyData.str).map Cl.sh) ++ [.sh (.str rest[k])] = ((found ++ [rest[k]]).map PyData.str).map Cl.sh := by simp
    rw [e3]
    repeat walk_at "ds"
    refine ⟨rest.eraseIdx k, found ++ [rest[k]], _, by rw [List.length_eraseIdx, if_pos hk]; omega, by simp [f2], fun x hx => f3 x (List.mem_of_mem_eraseIdx hx), fun x hx => ?_, D3.set (by omega), F3.put (by omega), (set_other (by omega)).trans m1, set_same (lt_of_at m2), rfl⟩
    rcases List.mem_append.mp hx with q | q
    · exact f4 x q
    · simp at q; subst q; exact f3 _ (List.getElem_mem hk)
  · obtain ⟨rest, found, z, f1, f2, f3, f4, D, F, g1, g2, rfl⟩ := hI
    rw [rngD_length] at f2
    repeat walk_at "ds"
    refine ⟨_, _, snap_list g2, rfl, ?_⟩
    repeat walk_at "ds"
    exact h found _ f4 (by omega) (D.trim hlt) F.trim
end
end Ds.K10
namespace Ds.K10
open PySem PySem.Spec PyProof.Rows L2 Dn TL
theorem bx_first {x : Str} {Q : D → Prop} (hx : Bxo x) (h : ∀ (a : Str) (rest : List Str), Lo a → Q (.list ((a :: rest).map PyData.str))) : ∃ c, sSplit x [.str "."] = some c ∧ Q c := by
  obtain ⟨a, rest, ha, e⟩ := hx.first
  refine bx_parts (Nat.le_trans hx.ok.1 (by decide)) ?_
  rw [e]
  exact h a rest ha
theorem hd_ix {a : Str} {rest : List Str} {Q : D → Prop} (h : Q (.str a)) : ∃ c, dIx (.list ((a :: rest).map PyData.str)) (.int 0) = some c ∧ Q c :=
  bx_ix_lst (d := .str a) (by unfold atI ixN; rw [if_pos (by omega), if_pos (by rw [List.length_map, List.length_cons]; omega)]; rfl) h
end Ds.K10
namespace Ds.K10
open PySem PySem.Spec PyProof.Rows L2 Dn TL
section
variable {b lc : Nat} {s : St} {Q : Cl → St → Prop} {Ws Bs : List Str}
theorem plain_ (S : Dq b s) (hc : s[lc]? = some (.dk (caseK Bs Ws))) (hn : lc ≠ b) (hB : ∀ x ∈ Bs, Bxo x) (hBl : 3 ≤ Bs.length ∧ Bs.length ≤ 8) (hWl : 0 < Ws.length ∧ Ws.length ≤ 6) (h : ∀ (w : Wd) (s' : St), WdOk Ws Bs w → Dq b s' → Fr b s s' → Q (.sh (encW w)) s') : FRun f__law_plain [.lo b, .lo lc] s Q := by
  have hlt := S.lt
  refine frun_fn rfl ?_
  unfold m__law_plain
  repeat walk_at "ds"
  refine draw S (by omega) fun way s1 a1 b1 S1 F1 => ?_
  repeat walk_at "ds"
  refine run_compL _ (fun i ys e s' => ∃ xs : List Str, ys = xs.map PyData.str ∧ xs.length = i ∧ (∀ x ∈ xs, x ∈ Bs) ∧ Dq b s' ∧ Fr b s s' ∧ e = [.lo b, .lo lc, .sh (.int way), .no, .no, .no, .no]) ⟨[], rfl, rfl, by simp, S1, F1, rfl⟩ (fun i d ys e s' hd hJ => ?_) fun ys e s' hJ => ?_
  · obtain ⟨xs, rfl, e2, hx, D, F, rfl⟩ := hJ
    refine ⟨_, rfl, ?_⟩
    repeat walk_at "ds"
    refine ⟨_, .inr "boxes", _, F.at_ hc hn, rfl, rfl, ?_⟩
    repeat walk_at "ds"
    refine one_of D (by rw [List.length_map]; omega) fun d s2 hd D2 F2 => ?_
    obtain ⟨x, hxm, rfl⟩ := List.mem_map.mp hd
    repeat walk_at "ds"
    refine ⟨xs ++ [x], by simp, by simp [e2], fun y hy => ?_, D2, F.trans F2, rfl⟩
    rcases List.mem_append.mp hy with q | q
    · exact hx y q
    · simp at q; subst q; exact hxm
  · obtain ⟨xs, rfl, e2, hx, D, F, rfl⟩ := hJ
    rw [rngD_length] at e2
    match xs, e2, hx with
    | [x, y, z], _, hx =>
    have mx := hx x (by simp)
    have my := hx y (by simp)
    have mz := hx z (by simp)
    have hc2 := F.at_ hc hn
    refine ⟨_, shL_map _, ?_⟩
    repeat walk_at "ds"
    refine two_dec (fun h1 => ?_) (fun h1 => ?_)
    · repeat walk_at "ds"
      refine ⟨_, .inr "worths", _, hc2, rfl, rfl, ?_⟩
      repeat walk_at "ds"
      refine one_of D (by rw [List.length_map]; omega) fun d s2 hd D2 F2 => ?_
      obtain ⟨w, hw, rfl⟩ := List.mem_map.mp hd
      repeat walk_at "ds"
      exact h (.take x w) _ ⟨mx, hw⟩ (D2.trim hlt) (F.trans F2).trim
    repeat walk_at "ds"
    refine two_dec (fun h2 => ?_) (fun h2 => ?_)
    · repeat walk_at "ds"
      exact h (.ask x) _ mx (D.trim hlt) F.trim
    repeat walk_at "ds"
    refine two_dec (fun h3 => ?_) (fun h3 => ?_)
    · repeat walk_at "ds"
      refine draw D (by omega) fun n1 s2 c1 d1 D2 F2 => ?_
      repeat walk_at "ds"
      refine draw D2 (by omega) fun n2 s3 c2 d2 D3 F3 => ?_
      repeat walk_at "ds"
      refine bx_ix_in c2 (by simp; omega) fun d hd => ?_
      have hd : d ∈ [.int 0, .int 1, .int 9999, .int n1] := hd
      obtain ⟨m, rfl⟩ : ∃ m, d = .int m := by
        simp at hd
        rcases hd with rfl | rfl | rfl | rfl <;> exact ⟨_, rfl⟩
      repeat walk_at "ds"
      exact h (.number x m) _ mx (D3.trim hlt) (F.trans (F2.trans F3)).trim
    repeat walk_at "ds"
    refine two_dec (fun h4 => ?_) (fun h4 => ?_)
    · repeat walk_at "ds"
      exact h (.copy x y) _ ⟨mx, my⟩ (D.trim hlt) F.trim
    repeat walk_at "ds"
    refine two_dec (fun h5 => ?_) (fun h5 => ?_)
    · repeat walk_at "ds"
      have hw : way = 6 ∨ way = 7 := by omega
      rcases hw with rfl | rfl
      · refine ⟨encW (.mix x y z), rfl, ?_⟩
        repeat walk_at "ds"
        exact h (.mix x y z) _ ⟨mx, my, mz⟩ (D.trim hlt) F.trim
      · refine ⟨encW (.opn x y), rfl, ?_⟩
        repeat walk_at "ds"
        exact h (.opn x y) _ ⟨mx, my⟩ (D.trim hlt) F.trim
    repeat walk_at "ds"
    refine two_dec (fun h6 => ?_) (fun h6 => ?_)
    · repeat walk_at "ds"
      exact h (.tell x) _ mx (D.trim hlt) F.trim
    repeat walk_at "ds"
    refine two_dec (fun h7 => ?_) (fun h7 => ?_)
    · repeat walk_at "ds"
      refine ⟨_, .inr "boxes", _, hc2, rfl, rfl, ?_⟩
      repeat walk_at "ds"
      refine some__ D (by decide) fun v s2 hv D2 F2 => ?_
      repeat walk_at "ds"
      refine picked_ D2 hBl.2 (by omega) fun ps s3 hp hpl D3 F3 => ?_
      repeat walk_at "ds"
      exact h (.drop ps) _ ⟨hp, by omega⟩ (D3.trim hlt) (F.trans (F2.trans F3)).trim
    repeat walk_at "ds"
    refine bx_first (hB x mx) fun a rest ha => ?_
    repeat walk_at "ds"
    refine hd_ix ?_
    repeat walk_at "ds"
    refine ⟨_, .inr "boxes", _, hc2, rfl, rfl, ?_⟩
    repeat walk_at "ds"
    match Bs, hBl, hB with
    | x0 :: Bs', hBl, hB =>
    refine hd_ix ?_
    repeat walk_at "ds"
    refine bx_first (hB x0 (by simp)) fun a2 rest2 ha2 => ?_
    repeat walk_at "ds"
    refine hd_ix ?_
    repeat walk_at "ds"
    refine draw D (by omega) fun n1 s2 c1 d1 D2 F2 => ?_
    repeat walk_at "ds"
    refine bx_ix_in c1 d1 fun d hd => ?_
    have hd : d ∈ [encW (.wipe x), encW (.clear a), encW (.clear a2)] := hd
    simp only [List.mem_cons, List.not_mem_nil, or_false] at hd
    have F5 := (F.trans F2)
    rcases hd with rfl | rfl | rfl
    · repeat walk_at "ds"
      exact h (.wipe x) _ mx (D2.trim hlt) F5.trim
    · repeat walk_at "ds"
      exact h (.clear a) _ ⟨ha.1.mono (by decide), ha.2⟩ (D2.trim hlt) F5.trim
    · repeat walk_at "ds"
      exact h (.clear a2) _ ⟨ha2.1.mono (by decide), ha2.2⟩ (D2.trim hlt) F5.trim
end
end Ds.K10
namespace Ds.K10
open PySem PySem.Spec PyProof.Rows L2 Dn TL
def cntw (ws : List Wd) : Nat := (ws.filter wants).length
theorem cntw_snoc {ws : List Wd} {w : Wd} : cntw (ws ++ [w]) = if wants w = true then cntw ws + 1 else cntw ws := by
  unfold cntw
  rw [List.filter_append, List.length_append]
  cases h : wants w <;> simp [h]
theorem goP_u {row : List Wd} {nums : List Int} : ∀ k, k ≤ row.length → (goP row nums k).u = cntw (row.take k)
  | 0, _ => by simp [goP, cntw]
  | k + 1, hk => by
    have hw : row[k]? = some row[k] := List.getElem?_eq_getElem (by omega)
    rw [goP_step hw]
    show usedP (goP row nums k).u row[k] = _
    have e : row.take (k + 1) = row.take k ++ [row[k]] := by rw [List.take_succ, hw]; rfl
    rw [goP_u k (by omega), e, cntw_snoc]
    rfl
/-- what is drawn beside the words -/
structure NA (row : List Wd) (nums as : List Int) : Prop where
  n : nums.length = row.length
  a : as.length = cntw row
  an : ∀ (k : Nat) (w : Wd), row[k]? = some w → wants w = true → as[cntw (row.take k)]? = some ((nums[k]?).getD 0) ∧ 0 ≤ (nums[k]?).getD 0 ∧ (nums[k]?).getD 0 < 10000
  nu : ∀ (k : Nat) (x : Str) (n : Int), row[k]? = some (.number x n) → (nums[k]?).getD 0 = n
theorem NA.nil : NA [] [] [] := ⟨rfl, rfl, fun k w h => by simp at h, fun k x n h => by simp at h⟩
theorem NA.snoc {row : List Wd} {nums as : List Int} {w : Wd} {m : Int} (h : NA row nums as) (hm : wants w = true → 0 ≤ m ∧ m < 10000) (hn : ∀ x n, w = .number x n → m = n) : NA (row ++ [w]) (nums ++ [m]) (if wants w = true then as ++ [m] else as) := by
  have at_ : ∀ {k : Nat} {v : Wd}, (row ++ [w])[k]? = some v → (k < row.length ∧ row[k]? = some v) ∨ (k = row.length ∧ v = w) := fun {k v} hk => by
    by_cases h1 : k < row.length
    · rw [List.getElem?_append_left h1] at hk
      exact .inl ⟨h1, hk⟩
    · have h2 := (List.getElem?_eq_some_iff.mp hk).1
      rw [List.length_append, List.length_singleton] at h2
      have h3 : k = row.length := by omega
      subst h3
      rw [List.getElem?_append_right (Nat.le_refl _), Nat.sub_self] at hk
      simp at hk
      exact .inr ⟨rfl, hk.symm⟩
  have g1 : ∀ {k : Nat}, k < row.length → ((nums ++ [m])[k]?).getD 0 = (nums[k]?).getD 0 := fun {k} hk => by rw [List.getElem?_append_left (by rw [h.n]; exact hk)]
  have g2 : ((nums ++ [m])[row.length]?).getD 0 = m := by
    rw [List.getElem?_append_right (by rw [h.n]; exact Nat.le_refl _), h.n, Nat.sub_self]
    rfl
  refine ⟨by rw [List.length_append, List.length_append, h.n]; rfl, ?_, fun k v hk hv => ?_, fun k x n hk => ?_⟩
  · rw [cntw_snoc]
    split
    · rw [List.length_append, h.a]; rfl
    · exact h.a
  · rcases at_ hk with ⟨h1, h2⟩ | ⟨rfl, rfl⟩
    · obtain ⟨a1, a2⟩ := h.an k v h2 hv
      rw [g1 h1, List.take_append_of_le_length (by omega)]
      refine ⟨?_, a2⟩
      split
      · rw [List.getElem?_append_left (List.getElem?_eq_some_iff.mp a1).1]
        exact a1
      · exact a1
    · rw [g2, List.take_left', if_pos hv]
      · refine ⟨?_, hm hv⟩
        rw [List.getElem?_append_right (by rw [h.a]; exact Nat.le_refl _), h.a, Nat.sub_self]
        rfl
      · rfl
  · rcases at_ hk with ⟨h1, h2⟩ | ⟨rfl, e⟩
    · rw [g1 h1]
      exact h.nu k x n h2
    · rw [g2]
      exact hn x n e.symm
theorem num_of {w : Wd} (h : nmW w = "number") : ∃ x n, w = .number x n := by
  cases w with
  | number x n => exact ⟨x, n, rfl⟩
  | take => exact absurd h (by decide : ¬ ("take" : Str) = "number")
  | ask => exact absurd h (by decide : ¬ ("ask" : Str) = "number")
  | copy => exact absurd h (by decide : ¬ ("copy" : Str) = "number")
  | mix => exact absurd h (by decide : ¬ ("mix" : Str) = "number")
  | opn => exact absurd h (by decide : ¬ ("open" : Str) = "number")
  | tell => exact absurd h (by decide : ¬ ("tell" : Str) = "number")
  | wipe => exact absurd h (by decide : ¬ ("wipe" : Str) = "number")
  | clear => exact absurd h (by decide : ¬ ("clear" : Str) = "number")
  | drop => exact absurd h (by decide : ¬ ("drop" : Str) = "number")
theorem in_ta (w : Wd) : inD (.str (nmW w)) [.str "take", .str "ask"] = wants w := by cases w <;> rfl
theorem Fd.str {k : Nat} {x : Str} : Fd k (.str x) := by cases k <;> trivial
theorem Fd.int {k : Nat} {i : Int} : Fd k (.int i) := by cases k <;> trivial
theorem Fd.tup {k : Nat} {ds : List D} (hl : ds.length ≤ 1000) (h : ∀ d ∈ ds, Fd k d) : Fd (k + 1) (.tuple ds) := ⟨hl, h⟩
theorem Fd.strs {k : Nat} {xs : List Str} (hl : xs.length ≤ 1000) : Fd (k + 1) (.tuple (xs.map PyData.str)) := Fd.tup (by rw [List.length_map]; exact hl) fun d hd => by
  obtain ⟨x, _, rfl⟩ := List.mem_map.mp hd
  exact Fd.str
theorem Fd.ints {k : Nat} {xs : List Int} (hl : xs.length ≤ 1000) : Fd (k + 1) (.tuple (xs.map PyData.int)) := Fd.tup (by rw [List.length_map]; exact hl) fun d hd => by
  obtain ⟨x, _, rfl⟩ := List.mem_map.mp hd
  exact Fd.int
theorem Fd.pl {k j : Nat} : Fd (k + 1) (plD j) := Fd.tup (by simp) fun d hd => by
  simp at hd
  rcases hd with rfl | rfl
  · exact Fd.str
  · exact Fd.int
theorem Sh.pl {k j : Nat} : Sh (k + 1) (plD j) := Sh.tup fun d hd => by
  simp at hd
  rcases hd with rfl | rfl
  · exact Sh.str (n := 10) (Ok.lit _ _ (by decide))
  · exact Sh.int
section
variable {Ws Bs : List Str} {row : List Wd} {nums as : List Int}
/-- a thing that is left -/
def Lf (Ws Bs : List Str) (d : D) : Prop := ∃ (j : Nat) (x : Str) (ws : List Str), d = .tuple [plD j, .str x, .tuple (ws.map PyData.str)] ∧ x ∈ Bs ∧ Wl Ws ws
theorem kept_lf {A : Th} {c j : Nat} (hA : ThOk Ws Bs c A) : ∀ d ∈ keptD (plD j) A, Lf Ws Bs d := fun d hd => by
  obtain ⟨x, hx, rfl⟩ := List.mem_map.mp hd
  have hx := srt_mem.mp (List.mem_filter.mp hx).1
  obtain ⟨p, hp, rfl⟩ := List.mem_map.mp hx
  exact ⟨j, _, _, rfl, (hA.ok p hp).1, hA.look _⟩
theorem left_lf {A : Th} {c j : Nat} {w : Wd} (hA : ThOk Ws Bs c A) (hw : WdOk Ws Bs w) : ∀ d ∈ leftP (plD j) A w, Lf Ws Bs d := fun d hd => by
  cases w with
  | drop xs => exact kept_lf (dropped_ok hA (M := []) (n := 0) .nil hw.1) d hd
  | _ => cases hd
theorem go_lf (C : Cs Ws Bs row nums as) : ∀ k, k ≤ row.length → ∀ d ∈ (goP row nums k).L, Lf Ws Bs d
  | 0, _ => fun d hd => by cases hd
  | k + 1, hk => fun d hd => by
    have hw : row[k]? = some row[k] := List.getElem?_eq_getElem (by omega)
    rw [goP_step hw] at hd
    rcases List.mem_append.mp hd with hd | hd
    · exact go_lf C k (by omega) d hd
    · exact left_lf (go_ok C k (by omega)).1 (C.ok _ (List.getElem_mem _)) d hd
theorem Lf.fd (C : Cs Ws Bs row nums as) {d : D} {k : Nat} (h : Lf Ws Bs d) : Fd (k + 3) d := by
  obtain ⟨j, x, ws, rfl, hx, hw⟩ := h
  refine Fd.tup (by simp) fun d hd => ?_
  simp only [List.mem_cons, List.not_mem_nil, or_false] at hd
  rcases hd with rfl | rfl | rfl
  · exact Fd.pl
  · exact Fd.str
  · exact Fd.strs (Nat.le_trans hw.len (Nat.le_trans C.wl (by decide)))
theorem Lf.sh (C : Cs Ws Bs row nums as) {d : D} (h : Lf Ws Bs d) : Sh 4 d := by
  obtain ⟨j, x, ws, rfl, hx, hw⟩ := h
  refine Sh.tup fun d hd => ?_
  simp only [List.mem_cons, List.not_mem_nil, or_false] at hd
  rcases hd with rfl | rfl | rfl
  · exact Sh.pl
  · exact Sh.str (C.bs x hx).ok
  · exact (Sh.strs (k := 0) fun y hy => C.ws y (hw.mem y hy)).mono (by decide)
theorem shown_fd (C : Cs Ws Bs row nums as) {A : Th} {c : Nat} (hA : ThOk Ws Bs c A) (hc : c ≤ 60) : Fd 10 (shownD A) ∧ Sh 5 (shownD A) := by
  have hl : (skeys A).length ≤ 60 := Nat.le_trans srt_len (by unfold keysA; rw [List.length_map]; exact Nat.le_trans hA.len hc)
  constructor
  · refine Fd.tup (by rw [List.length_map]; omega) fun d hd => ?_
    obtain ⟨x, hx, rfl⟩ := List.mem_map.mp hd
    refine Fd.tup (by simp) fun d hd => ?_
    simp only [List.mem_cons, List.not_mem_nil, or_false] at hd
    rcases hd with rfl | rfl | rfl
    · exact Fd.str
    · exact Fd.int
    · exact Fd.strs (Nat.le_trans (hA.look x).len (Nat.le_trans C.wl (by decide)))
  · refine Sh.tup fun d hd => ?_
    obtain ⟨x, hx, rfl⟩ := List.mem_map.mp hd
    have hx := srt_mem.mp hx
    obtain ⟨p, hp, rfl⟩ := List.mem_map.mp hx
    refine Sh.tup fun d hd => ?_
    simp only [List.mem_cons, List.not_mem_nil, or_false] at hd
    rcases hd with rfl | rfl | rfl
    · exact Sh.str (C.bs _ (hA.ok p hp).1).ok
    · exact Sh.int
    · exact (Sh.strs (k := 0) fun y hy => C.ws y ((hA.look p.1).mem y hy)).mono (by decide)
theorem res_ok (C : Cs Ws Bs row nums as) (most : Nat) : Fd 13 (resD row nums most) ∧ Sh 7 (resD row nums most) ∧ isStr (resD row nums most) = false := by
  have hlen := C.len
  unfold resD
  split
  · rename_i h
    obtain ⟨g1, g2, g3⟩ := go_ok C most (by omega)
    have lf := go_lf C most (by omega)
    obtain ⟨s1, s2⟩ := shown_fd C g1 (by omega)
    refine ⟨Fd.tup (by simp) fun d hd => ?_, Sh.tup fun d hd => ?_, rfl⟩
    · simp only [List.mem_cons, List.not_mem_nil, or_false] at hd
      rcases hd with rfl | rfl | rfl | rfl | rfl | rfl
      · exact Fd.str
      · exact Fd.pl
      · exact Fd.int
      · exact Fd.ints (by omega)
      · exact Fd.tup (by omega) fun d hd => (lf d hd).fd C
      · exact Fd.tup (k := 11) (by rw [List.length_map]; exact Nat.le_trans srt_len (by unfold keysA; rw [List.length_map]; have := g1.len; omega)) fun d hd => by
          obtain ⟨x, hx, rfl⟩ := List.mem_map.mp hd
          refine Fd.tup (by simp) fun d hd => ?_
          simp only [List.mem_cons, List.not_mem_nil, or_false] at hd
          rcases hd with rfl | rfl | rfl
          · exact Fd.str
          · exact Fd.int
          · exact Fd.strs (Nat.le_trans (g1.look x).len (Nat.le_trans C.wl (by decide)))
    · simp only [List.mem_cons, List.not_mem_nil, or_false] at hd
      rcases hd with rfl | rfl | rfl | rfl | rfl | rfl
      · exact Sh.str (n := 10) (Ok.lit _ _ (by decide))
      · exact Sh.pl
      · exact Sh.int
      · exact Sh.tup fun d hd => by
          obtain ⟨i, _, rfl⟩ := List.mem_map.mp hd
          exact Sh.int
      · exact (Sh.tup fun d hd => (lf d hd).sh C).mono (by decide)
      · exact s2.mono (by decide)
  · obtain ⟨g1, g2, g3⟩ := go_ok C row.length (Nat.le_refl _)
    have lf := go_lf C row.length (Nat.le_refl _)
    have kl := kept_lf (j := row.length) g1
    have kn : (keptD (plD row.length) (goP row nums row.length).A).length ≤ row.length := kept_len g1.len
    have all : ∀ d ∈ (goP row nums row.length).L ++ keptD (plD row.length) (goP row nums row.length).A, Lf Ws Bs d := fun d hd => (List.mem_append.mp hd).elim (lf d) (kl d)
    refine ⟨Fd.tup (by simp) fun d hd => ?_, Sh.tup fun d hd => ?_, rfl⟩
    · simp only [List.mem_cons, List.not_mem_nil, or_false] at hd
      rcases hd with rfl | rfl | rfl | rfl
      · exact Fd.str
      · exact Fd.int
      · exact Fd.ints (by omega)
      · exact Fd.tup (by rw [List.length_append]; omega) fun d hd => (all d hd).fd C
    · simp only [List.mem_cons, List.not_mem_nil, or_false] at hd
      rcases hd with rfl | rfl | rfl | rfl
      · exact Sh.str (n := 10) (Ok.lit _ _ (by decide))
      · exact Sh.int
      · exact Sh.tup fun d hd => by
          obtain ⟨i, _, rfl⟩ := List.mem_map.mp hd
          exact Sh.int
      · exact (Sh.tup fun d hd => (all d hd).sh C).mono (by decide)
end
end Ds.K10
namespace Ds.K10
open PySem PySem.Spec PyProof.Rows L2 Dn TL
def tailL : M Fl := (mSeq (mSet 5 (mLo (mNew (mLsO []))))
  (mSeq (mSet 6 (mLo (mNew (mLsO []))))
  (mSeq (mFor (mIter (mVar 4)) (mgName 7) (mSeq (mApp (mLV 5) (mSh (mBin dIx (mLst [(mSh (mC (PyData.int 0))), (mSh (mC (PyData.int 1))), (mSh (mC (PyData.int 9999))), (mSh (mD (mCall f__law_draw [(mLo (mLV 1)), (mSh (mC (PyData.int 10000)))])))]) (mD (mCall f__law_draw [(mLo (mLV 1)), (mSh (mC (PyData.int 4)))])))))
  (mSeq (mIfS (mTest (mBin dIn (mBin dIx (mVar 7) (mC (PyData.int 0))) (mTup [(mSh (mC (PyData.str "take"))), (mSh (mC (PyData.str "ask")))]))) (mApp (mLV 6) (mSh (mD (mIxC (mLo (mLV 5)) (mNeg (mC (PyData.int 1))))))) mNx)
  (mIfS (mTest (mBin dEq (mBin dIx (mVar 7) (mC (PyData.int 0))) (mC (PyData.str "number")))) (mSetIx (mLV 5) (mNeg (mC (PyData.int 1))) (mSh (mBin dIx (mVar 7) (mC (PyData.int 2))))) mNx))))
  (mSeq (mFor (mIter (mLst [(mSh (mCallB bLen [(mSh (mVar 4))])), (mSh (mBin dAdd (mCallB bLen [(mSh (mVar 4))]) (mC (PyData.int 1)))), (mSh (mC (PyData.int 0))), (mSh (mD (mCall f__law_draw [(mLo (mLV 1)), (mSh (mBin dAdd (mCallB bLen [(mSh (mVar 4))]) (mC (PyData.int 1))))]))), (mSh (mD (mCall f__law_draw [(mLo (mLV 1)), (mSh (mBin dAdd (mCallB bLen [(mSh (mVar 4))]) (mC (PyData.int 1))))]))), (mSh (mCallB bLen [(mSh (mVar 4))]))])) (mgName 8) (mSeq (mSet 10 (mSh (mD (mCall f_run [(mSh (mTup [(mSh (mTup [])), (mSh (mVar 4))])), (mSh (mTupOf (mLo (mLV 6)))), (mSh (mVar 8))]))))
  (mIfS (mOrT (mNotT (mTest (mD (mCall f__law_formed [(mSh (mVar 10))])))) (mTest (mBin dNe (mVar 10) (mD (mCall f__law_due [(mSh (mVar 4)), (mLo (mLV 5)), (mSh (mVar 8))]))))) (mRet (mSh (mC (PyData.bool false)))) mNx)))
  (mRet (mSh (mC (PyData.bool true))))))))
end Ds.K10
namespace Ds.K10
open PySem PySem.Spec PyProof.Rows L2 Dn TL
section
variable {b lc : Nat} {s : St} {Ws Bs : List Str}
theorem tail_law {sc nm : D} {row : List Wd} {z9 z11 z12 : Cl} {R : Fl → Ev → St → Prop} (hW : ∀ w ∈ Ws, Ok 10 w) (hWl : Ws.length ≤ 6) (hB : ∀ x ∈ Bs, Bxo x) (hl : row.length ≤ 55) (ok : ∀ w ∈ row, WdOk Ws Bs w) (D : Dq b s) (r : ∀ e s', R (.rt (.sh (.bool true))) e s') :
    Run tailL [.sh sc, .lo b, .sh nm, .lo lc, .sh (.tuple (row.map encW)), .no, .no, .no, .no, z9, .no, z11, z12, .no] s R := by
  have hlt := D.lt
  unfold tailL
  repeat walk_at "ds"
  have e1 : (s ++ [Ob.lst []]).length = s.length + 1 := by simp
  rw [e1]
  have n0 : (s ++ [Ob.lst []] ++ [Ob.lst []])[s.length]? = some (.lst ((([] : List Int).map PyData.int).map Cl.sh)) := by
    rw [app_old (by simp)]
    exact app_new
  have a0 : (s ++ [Ob.lst []] ++ [Ob.lst []])[s.length + 1]? = some (.lst ((([] : List Int).map PyData.int).map Cl.sh)) := by
    rw [← e1]
    exact app_new
  have D0 := (D.app (o := Ob.lst [])).app (o := Ob.lst [])
  generalize s ++ [Ob.lst []] ++ [Ob.lst []] = s0 at n0 a0 D0 ⊢
  refine run_forR _ (fun rem e s' => ∃ (done rest : List Wd) (nums as : List Int) (z7 : Cl), row = done ++ rest ∧ rem = rest.map encW ∧ NA done nums as ∧ Dq b s' ∧ s'[s.length]? = some (.lst ((nums.map PyData.int).map Cl.sh)) ∧ s'[s.length + 1]? = some (.lst ((as.map PyData.int).map Cl.sh)) ∧ e = [.sh sc, .lo b, .sh nm, .lo lc, .sh (.tuple (row.map encW)), .lo s.length, .lo (s.length + 1), z7, .no, z9, .no, z11, z12, .no]) ⟨[], row, [], [], _, rfl, rfl, .nil, D0, n0, a0, rfl⟩ (fun d rem e s' hI => ?_) fun e s' hI => ?_
  · obtain ⟨done, rest, nums, as, z7, hrow, hr, N, D1, n1, a1, rfl⟩ := hI
    cases rest with
    | nil => cases hr
    | cons w rest =>
      rw [List.map_cons] at hr
      injection hr with hr1 hr2
      subst hr1
      subst hr2
      have hdl : done.length ≤ 55 := by rw [hrow] at hl; simp at hl; omega
      have hal : as.length ≤ 55 := by rw [N.a]; exact Nat.le_trans (List.length_filter_le _ _) hdl
      refine ⟨_, rfl, ?_⟩
      repeat walk_at "ds"
      refine ⟨_, n1, ?_⟩
      repeat walk_at "ds"
      refine draw D1 (by omega) fun m1 s2 c1 d1 D2 F2 => ?_
      have n2 := F2.at_ n1 (by omega)
      have a2 := F2.at_ a1 (by omega)
      repeat walk_at "ds"
      refine draw D2 (by omega) fun m2 s3 c2 d2 D3 F3 => ?_
      have n3 := F3.at_ n2 (by omega)
      have a3 := F3.at_ a2 (by omega)
      repeat walk_at "ds"
      refine bx_ix_in c2 (by simp; omega) fun d hd => ?_
      have hd : d ∈ [.int 0, .int 1, .int 9999, .int m1] := hd
      obtain ⟨m, rfl, hm⟩ : ∃ m, d = .int m ∧ 0 ≤ m ∧ m < 10000 := by
        simp at hd
        rcases hd with rfl | rfl | rfl | rfl
        · exact ⟨_, rfl, by decide, by decide⟩
        · exact ⟨_, rfl, by decide, by decide⟩
        · exact ⟨_, rfl, by decide, by decide⟩
        · exact ⟨_, rfl, c1, d1⟩
      repeat walk_at "ds"
      refine ⟨_, n3, Nat.lt_of_le_of_lt (show _ ≤ 100 by rw [List.length_map, List.length_map, N.n]; omega) (by decide), ?_⟩
      have e3 : ((nums.map PyData.int).map Cl.sh) ++ [.sh (.int m)] = ((nums ++ [m]).map PyData.int).map Cl.sh := by simp
      rw [e3]
      have a4 := (set_other (s := s3) (l := s.length) (o := .lst (((nums ++ [m]).map PyData.int).map Cl.sh)) (show s.length + 1 ≠ s.length by omega)).trans a3
      have n4 := set_same (s := s3) (o := .lst (((nums ++ [m]).map PyData.int).map Cl.sh)) (lt_of_at n3)
      have D4 := D3.set (o := .lst (((nums ++ [m]).map PyData.int).map Cl.sh)) (show b ≠ s.length by omega)
      generalize s3.set s.length (.lst (((nums ++ [m]).map PyData.int).map Cl.sh)) = s4 at a4 n4 D4 ⊢
      have lst : ∀ {s5 : St}, s5[s.length]? = some (.lst (((nums ++ [m]).map PyData.int).map Cl.sh)) → ixC s5 (.lo s.length) (.int (-1)) = some (.sh (.int m)) := fun {s5} h => ixC_lo h (by
        unfold atI ixN
        rw [List.length_map, List.length_map, List.length_append, List.length_singleton, if_neg (by decide), if_pos (by omega)]
        have ej : ((-1 : Int) + ((nums.length + 1 : Nat) : Int)).toNat = nums.length := by omega
        rw [ej]
        simp)
      repeat walk_at "ds"
      refine ⟨_, ix0 w, ?_⟩
      have fin : ∀ (s5 : St) (as' : List Int), Dq b s5 → s5[s.length]? = some (.lst (((nums ++ [m]).map PyData.int).map Cl.sh)) → s5[s.length + 1]? = some (.lst ((as'.map PyData.int).map Cl.sh)) → as' = (if wants w = true then as ++ [m] else as) →
          RunX NoY (mIfS (mTest (mBin dEq (mBin dIx (mVar 7) (mC (PyData.int 0))) (mC (PyData.str "number")))) (mSetIx (mLV 5) (mNeg (mC (PyData.int 1))) (mSh (mBin dIx (mVar 7) (mC (PyData.int 2))))) mNx) [.sh sc, .lo b, .sh nm, .lo lc, .sh (.tuple (row.map encW)), .lo s.length, .lo (s.length + 1), .sh (encW w), .no, z9, .no, z11, z12, .no] s5 fun fl e2 s2 => fl = .nx ∧ ∃ (done2 rest2 : List Wd) (nums2 as2 : List Int) (z7 : Cl), row = done2 ++ rest2 ∧ rest.map encW = rest2.map encW ∧ NA done2 nums2 as2 ∧ Dq b s2 ∧ s2[s.length]? = some (.lst ((nums2.map PyData.int).map Cl.sh)) ∧ s2[s.length + 1]? = some (.lst ((as2.map PyData.int).map Cl.sh)) ∧ e2 = [.sh sc, .lo b, .sh nm, .lo lc, .sh (.tuple (row.map encW)), .lo s.length, .lo (s.length + 1), z7, .no, z9, .no, z11, z12, .no] := fun s5 as' D5 n5 a5 e5 => by
        repeat walk_at "ds"
        refine ⟨_, ix0 w, ?_⟩
        repeat walk_at "ds"
        refine two_dec (fun h => ?_) (fun h => ?_)
        · obtain ⟨x, n, rfl⟩ := num_of h
          repeat walk_at "ds"
          refine ⟨_, _, nums.length, n5, rfl, ?_, ?_⟩
          · unfold ixN
            rw [List.length_map, List.length_map, List.length_append, List.length_singleton, if_neg (by decide), if_pos (by omega)]
            congr 1
            omega
          have e6 : ((((nums ++ [m]).map PyData.int).map Cl.sh).set nums.length (.sh (.int n))) = ((nums ++ [n]).map PyData.int).map Cl.sh := by
            rw [← List.map_set, ← List.map_set, List.set_append_right _ _ (Nat.le_refl _), Nat.sub_self]
            rfl
          rw [e6]
          repeat walk_at "ds"
          refine ⟨rfl, done ++ [.number x n], rest, nums ++ [n], as', _, by rw [hrow]; simp, rfl, ?_, D5.set (by omega), set_same (lt_of_at n5), (set_other (by omega)).trans a5, rfl⟩
          have := N.snoc (w := .number x n) (m := n) (fun z => nomatch z) (fun x2 n2 e => by cases e; rfl)
          rw [e5]
          exact this
        · repeat walk_at "ds"
          refine ⟨rfl, done ++ [w], rest, nums ++ [m], as', _, by rw [hrow]; simp, rfl, ?_, D5, n5, a5, rfl⟩
          rw [e5]
          exact N.snoc (fun _ => hm) fun x n e => absurd (by rw [e]; rfl) h
      repeat walk_at "ds"
      refine ⟨fun hb => ?_, fun hb => ?_⟩
      · have hb : wants w = true := (in_ta w).symm.trans hb
        repeat walk_at "ds"
        refine ⟨_, a4, ?_⟩
        repeat walk_at "ds"
        refine ⟨_, lst n4, ?_⟩
        repeat walk_at "ds"
        refine ⟨_, a4, Nat.lt_of_le_of_lt (show _ ≤ 100 by rw [List.length_map, List.length_map]; omega) (by decide), ?_⟩
        have e4 : ((as.map PyData.int).map Cl.sh) ++ [.sh (.int m)] = ((as ++ [m]).map PyData.int).map Cl.sh := by simp
        rw [e4]
        refine seq_nx ?_
        refine RunX.mono (fin _ (as ++ [m]) (D4.set (by omega)) ((set_other (by omega)).trans n4) (set_same (lt_of_at a4)) (if_pos hb).symm) fun fl e2 s2 hh => ?_
        obtain ⟨rfl, hh⟩ := hh
        exact turn_nx hh
      · have hb : wants w = false := (in_ta w).symm.trans hb
        refine run_nx (seq_nx ?_)
        refine RunX.mono (fin _ as D4 n4 a4 (if_neg (by rw [hb]; decide)).symm) fun fl e2 s2 hh => ?_
        obtain ⟨rfl, hh⟩ := hh
        exact turn_nx hh
  · obtain ⟨done, rest, nums, as, z7, hrow, hr, N, D1, n1, a1, rfl⟩ := hI
    have hrest : rest = [] := by cases rest with
      | nil => rfl
      | cons _ _ => cases hr
    subst hrest
    rw [List.append_nil] at hrow
    subst hrow
    have C : Cs Ws Bs row nums as := ⟨hW, hWl, hB, hl, ok, fun k w hk hw => by
      rw [goP_u k (Nat.le_of_lt (List.getElem?_eq_some_iff.mp hk).1)]
      exact N.an k w hk hw⟩
    have hrl : (row.map encW).length = row.length := List.length_map _
    repeat walk_at "ds"
    refine draw D1 (by omega) fun m1 s2 c1 d1 D2 F2 => ?_
    have n2 := F2.at_ n1 (by omega)
    have a2 := F2.at_ a1 (by omega)
    repeat walk_at "ds"
    refine draw D2 (by omega) fun m2 s3 c2 d2 D3 F3 => ?_
    have n3 := F3.at_ n2 (by omega)
    have a3 := F3.at_ a2 (by omega)
    repeat walk_at "ds"
    obtain ⟨k1, rfl⟩ := Int.eq_ofNat_of_zero_le c1
    obtain ⟨k2, rfl⟩ := Int.eq_ofNat_of_zero_le c2
    refine run_forR _ (fun rem e s' => (∃ ms : List Nat, rem = ms.map (fun m : Nat => PyData.int (m : Int)) ∧ ∀ m ∈ ms, m ≤ 1000) ∧ s'[s.length]? = some (.lst ((nums.map PyData.int).map Cl.sh)) ∧ s'[s.length + 1]? = some (.lst ((as.map PyData.int).map Cl.sh)) ∧ ∃ z8 za, e = [.sh sc, .lo b, .sh nm, .lo lc, .sh (.tuple (row.map encW)), .lo s.length, .lo (s.length + 1), z7, z8, z9, za, z11, z12, .no]) ⟨⟨[row.length, row.length + 1, 0, k1, k2, row.length], by simp [hrl], fun m hm => by
      simp only [List.mem_cons, List.not_mem_nil, or_false] at hm
      rcases hm with rfl | rfl | rfl | rfl | rfl | rfl <;> omega⟩, n3, a3, _, _, rfl⟩ (fun d rem e s' hI => ?_) fun e s' hI => ?_
    · obtain ⟨⟨ms, hms, hm⟩, n4, a4, z8, za, rfl⟩ := hI
      cases ms with
      | nil => cases hms
      | cons m ms =>
        rw [List.map_cons] at hms
        injection hms with h1 h2
        subst h1
        subst h2
        have hm0 := hm m List.mem_cons_self
        obtain ⟨q1, q2, q3⟩ := res_ok C m
        refine ⟨_, rfl, ?_⟩
        repeat walk_at "ds"
        refine ⟨_, _, snap_list a4, rfl, ?_⟩
        repeat walk_at "ds"
        refine run_ C hm0 fun s5 F5 => ?_
        have n5 := F5.at_ n4
        have a5 := F5.at_ a4
        repeat walk_at "ds"
        refine formed_ 13 _ _ _ q1 ?_
        repeat walk_at "ds"
        refine due_ C N.nu N.n n5 hm0 fun s6 F6 => ?_
        have n6 := F6.at_ n5
        have a6 := F6.at_ a5
        repeat walk_at "ds"
        refine bx_ne (.inl q3) q2.ok q2.ok ?_
        rw [q2.same]
        repeat walk_at "ds"
        exact ⟨⟨ms, rfl, fun y hy => hm y (List.mem_cons_of_mem _ hy)⟩, n6, a6, _, _, rfl⟩
    · obtain ⟨_, _, _, z8, za, rfl⟩ := hI
      repeat walk_at "ds"
      exact r _ _
end
theorem good : Good := by
  intro ns hns
  suffices H : FRun f_law [.sh (.list (ns.map PyData.int))] [] fun c s => c = .sh (.bool true) by
    obtain ⟨c, s', h1, rfl⟩ := H.to
    exact ⟨s', h1⟩
  refine frun_fn rfl ?_
  unfold m_law
  show RunX _ (mSeq _ (mSeq _ (mSeq _ (mSeq _ (mSeq _ tailL))))) _ _ _
  repeat walk_at "ds"
  refine deck_ hns fun s1 D1 F1 => ?_
  repeat walk_at "ds"
  refine names_ D1 fun xs s2 hx hxl D2 F2 => ?_
  repeat walk_at "ds"
  refine boxes_ D2 hx hxl fun Bs s3 hB hBl D3 F3 => ?_
  repeat walk_at "ds"
  have c1 : Dn.cutD (xs.map PyData.str) (some 6) (some 9) = ((xs.drop 6).take 3).map PyData.str := by
    rw [List.map_take, List.map_drop]
    exact cut_mid (j := 6) (k := 9) (by decide) (by rw [List.length_map, hxl]; decide)
  have c2 : Dn.cutD (xs.map PyData.str) none (some 3) = (xs.take 3).map PyData.str := by
    rw [List.map_take]
    exact cut_lo (k := 3)
  rw [c1, c2]
  refine bx_add_lst (line_of (by simp; omega)) ?_
  rw [← List.map_append]
  obtain ⟨Ws, eW, hWl, hWm⟩ : ∃ Ws : List Str, (xs.drop 6).take 3 ++ xs.take 3 = Ws ∧ Ws.length = 6 ∧ ∀ w ∈ Ws, w ∈ xs := by
    refine ⟨_, rfl, by simp; omega, fun w hw => ?_⟩
    rcases List.mem_append.mp hw with q | q
    · exact List.mem_of_mem_drop (List.mem_of_mem_take q)
    · exact List.mem_of_mem_take q
  rw [eW]
  have hW : ∀ w ∈ Ws, Ok 10 w := fun w hw => (hx w (hWm w hw)).1.1.mono (by decide)
  repeat walk_at "ds"
  rw [mer2]
  have D4 := D3.app (o := Ob.dk (caseK Bs Ws))
  have k4 : (s3 ++ [Ob.dk (caseK Bs Ws)])[s3.length]? = some (.dk (caseK Bs Ws)) := app_new
  have nb : s3.length ≠ ([] : St).length := by have := D3.lt; omega
  have ek : ([(.inr "boxes", .sh (.list (Bs.map PyData.str))), (.inr "worths", .sh (.list (Ws.map PyData.str)))] : List (Key × Cl)) = caseK Bs Ws := rfl
  rw [ek]
  generalize s3 ++ [Ob.dk (caseK Bs Ws)] = s4 at D4 k4 ⊢
  generalize s3.length = lc at k4 nb ⊢
  refine draw D4 (by omega) fun n1 s5 a5 b5 D5 F5 => ?_
  have k5 := F5.at_ k4 nb
  repeat walk_at "ds"
  refine draw D5 (by omega) fun n2 s6 a6 b6 D6 F6 => ?_
  have k6 := F6.at_ k5 nb
  repeat walk_at "ds"
  refine draw D6 (by omega) fun n3 s7 a7 b7 D7 F7 => ?_
  have k7 := F7.at_ k6 nb
  repeat walk_at "ds"
  refine bx_ix_in a7 (by simp; omega) fun d hd => ?_
  have hd : d ∈ [.int n1, .int n2] := hd
  obtain ⟨n, rfl, hn0, hn1⟩ : ∃ n, d = .int n ∧ 0 ≤ n ∧ n ≤ 40 := by
    simp at hd
    rcases hd with rfl | rfl
    · exact ⟨_, rfl, by omega, by omega⟩
    · exact ⟨_, rfl, by omega, by omega⟩
  repeat walk_at "ds"
  refine ⟨by rw [rngD_length]; exact line_of (by omega), ?_⟩
  refine run_compL _ (fun i ys e s' => ∃ ws : List Wd, ys = ws.map encW ∧ ws.length = i ∧ (∀ w ∈ ws, WdOk Ws Bs w) ∧ Dq 0 s' ∧ s'[lc]? = some (.dk (caseK Bs Ws)) ∧ e = [.sh (.list (ns.map PyData.int)), .lo 0, .sh (.list (xs.map PyData.str)), .lo lc, .no, .no, .no, .no, .no, .no, .no, .no, .no, .no]) ⟨[], rfl, rfl, by simp, D7, k7, rfl⟩ (fun i d ys e s' hd hJ => ?_) fun ys e s' hJ => ?_
  · obtain ⟨ws, rfl, e2, hw, D8, k8, rfl⟩ := hJ
    refine ⟨_, rfl, ?_⟩
    repeat walk_at "ds"
    refine plain_ D8 k8 nb hB hBl (by omega) fun w s9 okw D9 F9 => ?_
    repeat walk_at "ds"
    refine ⟨ws ++ [w], by simp, by simp [e2], fun v hv => ?_, D9, F9.at_ k8 nb, rfl⟩
    rcases List.mem_append.mp hv with q | q
    · exact hw v q
    · simp at q; subst q; exact okw
  · obtain ⟨ws, rfl, e2, hw, D8, k8, rfl⟩ := hJ
    rw [rngD_length] at e2
    have e2 : ws.length ≤ 40 := by omega
    refine ⟨_, shL_map _, ?_⟩
    repeat walk_at "ds"
    refine draw D8 (by omega) fun n4 s9 a9 b9 D9 F9 => ?_
    have k9 := F9.at_ k8 nb
    repeat walk_at "ds"
    refine two_dec (fun h => ?_) (fun h => ?_)
    · repeat walk_at "ds"
      refine ⟨_, .inr "boxes", _, k9, rfl, rfl, ?_⟩
      repeat walk_at "ds"
      obtain ⟨x0, x1, Br, rfl⟩ : ∃ x0 x1 Br, Bs = x0 :: x1 :: Br := by
        match Bs, hBl with
        | x0 :: x1 :: Br, _ => exact ⟨x0, x1, Br, rfl⟩
        | [_], h => simp at h
        | [], h => simp at h
      have c2 : Dn.cutD ((x0 :: x1 :: Br).map PyData.str) none (some 2) = [.str x0, .str x1] := (cut_lo (k := 2)).trans rfl
      rw [c2]
      refine ⟨_, rfl, ?_⟩
      repeat walk_at "ds"
      refine ⟨_, .inr "worths", _, k9, rfl, rfl, ?_⟩
      repeat walk_at "ds"
      refine run_forR _ (fun rem e s' => ∃ (row : List Wd) (P K : List Str) (z9 : Cl), rem = K.map PyData.str ∧ Ws = P ++ K ∧ row.length ≤ 40 + 2 * P.length ∧ (∀ w ∈ row, WdOk Ws (x0 :: x1 :: Br) w) ∧ Dq 0 s' ∧ e = [.sh (.list (ns.map PyData.int)), .lo 0, .sh (.list (xs.map PyData.str)), .lo lc, .sh (.tuple (row.map encW)), .no, .no, .no, .no, z9, .no, .sh (.str x0), .sh (.str x1), .no]) ⟨ws, [], Ws, _, rfl, rfl, by simpa using e2, hw, D9, rfl⟩ (fun d rem e s' hI => ?_) fun e s' hI => ?_
      · obtain ⟨row, P, K, z9, hr, hP, hl, hok, D10, rfl⟩ := hI
        cases K with
        | nil => cases hr
        | cons v K =>
          rw [List.map_cons] at hr
          injection hr with hr1 hr2
          subst hr1
          subst hr2
          have hv : v ∈ Ws := by rw [hP]; simp
          have hPl : P.length ≤ 6 := by rw [hP] at hWl; simp at hWl; omega
          refine ⟨_, rfl, ?_⟩
          repeat walk_at "ds"
          refine bx_add_tup (line_of (by rw [List.length_map]; simp; omega)) ?_
          repeat walk_at "ds"
          refine ⟨[.take x1 v, .mix x0 x0 x1] ++ row, P ++ [v], K, _, rfl, by rw [hP]; simp, by simp; omega, fun w hw => ?_, D10, rfl⟩
          rcases List.mem_append.mp hw with q | q
          · simp only [List.mem_cons, List.not_mem_nil, or_false] at q
            rcases q with rfl | rfl
            · exact ⟨by simp, hv⟩
            · exact ⟨by simp, by simp, by simp⟩
          · exact hok w q
      · obtain ⟨row, P, K, z9, hr, hP, hl, hok, D10, rfl⟩ := hI
        have hK : K = [] := by cases K with
          | nil => rfl
          | cons _ _ => cases hr
        subst hK
        rw [List.append_nil] at hP
        have hPl : P.length ≤ 6 := by rw [← hP]; omega
        refine seq_nx ?_
        refine RunX.lift (tail_law hW (by omega) hB (by omega) hok D10 fun e s' => ?_)
        repeat walk_at "ds"
        rfl
    · refine run_nx (seq_nx ?_)
      refine RunX.lift (tail_law hW (by omega) hB (by omega) hw D9 fun e s' => ?_)
      repeat walk_at "ds"
      rfl
end Ds.K10
namespace Ds.K10
open PySem PySem.Spec PyProof.Rows L2 Dn
def topS (i : Nat) : Stmt := PySem.Challenge.pw_wipeways_k10_words_one_by_one.main.body.getD i (.Pass ⟨0, 0, 0, 0⟩)
abbrev s_first_name : Stmt := topS 4
abbrev N_first_name : List Str := ["box"]
theorem sc_first_name : FnScope N_first_name ["box"] (defScope s_first_name) := ⟨rfl, rfl, rfl, by decide +kernel, rfl, by decide +kernel, by decide +kernel⟩
abbrev s_in_record : Stmt := topS 5
abbrev N_in_record : List Str := ["box", "name"]
theorem sc_in_record : FnScope N_in_record ["box", "name"] (defScope s_in_record) := ⟨rfl, rfl, rfl, by decide +kernel, rfl, by decide +kernel, by decide +kernel⟩
abbrev s_rows_in : Stmt := topS 7
abbrev N_rows_in : List Str := ["word"]
theorem sc_rows_in : FnScope N_rows_in ["word"] (defScope s_rows_in) := ⟨rfl, rfl, rfl, by decide +kernel, rfl, by decide +kernel, by decide +kernel⟩
abbrev s_def_of : Stmt := topS 8
abbrev N_def_of : List Str := ["program", "name", "one"]
theorem sc_def_of : FnScope N_def_of ["program", "name"] (defScope s_def_of) := ⟨rfl, rfl, rfl, by decide +kernel, rfl, by decide +kernel, by decide +kernel⟩
abbrev s_row_of : Stmt := topS 9
abbrev N_row_of : List Str := ["program", "name"]
theorem sc_row_of : FnScope N_row_of ["program", "name"] (defScope s_row_of) := ⟨rfl, rfl, rfl, by decide +kernel, rfl, by decide +kernel, by decide +kernel⟩
abbrev s_words_along : Stmt := topS 11
abbrev N_words_along : List Str := ["program", "place", "row", "found", "at"]
theorem sc_words_along : FnScope N_words_along ["program", "place"] (defScope s_words_along) := ⟨rfl, rfl, rfl, by decide +kernel, rfl, by decide +kernel, by decide +kernel⟩
abbrev s_word_at : Stmt := topS 12
abbrev N_word_at : List Str := ["program", "place", "row", "number"]
theorem sc_word_at : FnScope N_word_at ["program", "place"] (defScope s_word_at) := ⟨rfl, rfl, rfl, by decide +kernel, rfl, by decide +kernel, by decide +kernel⟩
abbrev s_behind : Stmt := topS 13
abbrev N_behind : List Str := ["program", "place", "around", "row", "number"]
theorem sc_behind : FnScope N_behind ["program", "place"] (defScope s_behind) := ⟨rfl, rfl, rfl, by decide +kernel, rfl, by decide +kernel, by decide +kernel⟩
abbrev s_first_place : Stmt := topS 14
abbrev N_first_place : List Str := ["program", "name"]
theorem sc_first_place : FnScope N_first_place ["program", "name"] (defScope s_first_place) := ⟨rfl, rfl, rfl, by decide +kernel, rfl, by decide +kernel, by decide +kernel⟩
abbrev s_inside : Stmt := topS 15
abbrev N_inside : List Str := ["program", "place", "number", "word"]
theorem sc_inside : FnScope N_inside ["program", "place", "number"] (defScope s_inside) := ⟨rfl, rfl, rfl, by decide +kernel, rfl, by decide +kernel, by decide +kernel⟩
abbrev s_out_of : Stmt := topS 16
abbrev N_out_of : List Str := ["program", "place", "n", "around"]
theorem sc_out_of : FnScope N_out_of ["program", "place", "n"] (defScope s_out_of) := ⟨rfl, rfl, rfl, by decide +kernel, rfl, by decide +kernel, by decide +kernel⟩
abbrev s_is_answer : Stmt := topS 20
abbrev N_is_answer : List Str := ["thing", "many"]
theorem sc_is_answer : FnScope N_is_answer ["thing", "many"] (defScope s_is_answer) := ⟨rfl, rfl, rfl, by decide +kernel, rfl, by decide +kernel, by decide +kernel⟩
abbrev s_both : Stmt := topS 21
abbrev N_both : List Str := ["ones", "others"]
theorem sc_both : FnScope N_both ["ones", "others"] (defScope s_both) := ⟨rfl, rfl, rfl, by decide +kernel, rfl, by decide +kernel, by decide +kernel⟩
abbrev s_Frame_shown : Stmt := inClass (topS 22) 5
abbrev N_Frame_shown : List Str := ["self", "box"]
theorem sc_Frame_shown : FnScope N_Frame_shown ["self"] (defScope s_Frame_shown) := ⟨rfl, rfl, rfl, by decide +kernel, rfl, by decide +kernel, by decide +kernel⟩
abbrev s_Frame___init__ : Stmt := inClass (topS 22) 0
abbrev N_Frame___init__ : List Str := ["self", "called_at"]
theorem sc_Frame___init__ : FnScope N_Frame___init__ ["self", "called_at"] (defScope s_Frame___init__) := ⟨rfl, rfl, rfl, by decide +kernel, rfl, by decide +kernel, by decide +kernel⟩
abbrev s_Frame_empty : Stmt := inClass (topS 22) 3
abbrev N_Frame_empty : List Str := ["self", "boxes", "box"]
theorem sc_Frame_empty : FnScope N_Frame_empty ["self", "boxes"] (defScope s_Frame_empty) := ⟨rfl, rfl, rfl, by decide +kernel, rfl, by decide +kernel, by decide +kernel⟩
abbrev s_Frame_kept_here : Stmt := inClass (topS 22) 4
abbrev N_Frame_kept_here : List Str := ["self", "place", "box"]
theorem sc_Frame_kept_here : FnScope N_Frame_kept_here ["self", "place"] (defScope s_Frame_kept_here) := ⟨rfl, rfl, rfl, by decide +kernel, rfl, by decide +kernel, by decide +kernel⟩
abbrev s_Frame_look : Stmt := inClass (topS 22) 1
abbrev N_Frame_look : List Str := ["self", "box"]
theorem sc_Frame_look : FnScope N_Frame_look ["self", "box"] (defScope s_Frame_look) := ⟨rfl, rfl, rfl, by decide +kernel, rfl, by decide +kernel, by decide +kernel⟩
abbrev s_Frame_put : Stmt := inClass (topS 22) 2
abbrev N_Frame_put : List Str := ["self", "box", "thing"]
theorem sc_Frame_put : FnScope N_Frame_put ["self", "box", "thing"] (defScope s_Frame_put) := ⟨rfl, rfl, rfl, by decide +kernel, rfl, by decide +kernel, by decide +kernel⟩
abbrev s_Run_go_back : Stmt := inClass (topS 23) 2
abbrev N_Run_go_back : List Str := ["self", "frame", "call", "results", "handed", "box", "thing"]
theorem sc_Run_go_back : FnScope N_Run_go_back ["self"] (defScope s_Run_go_back) := ⟨rfl, rfl, rfl, by decide +kernel, rfl, by decide +kernel, by decide +kernel⟩
abbrev s_Run_come_to : Stmt := inClass (topS 23) 1
abbrev N_Run_come_to : List Str := ["self", "place"]
theorem sc_Run_come_to : FnScope N_Run_come_to ["self", "place"] (defScope s_Run_come_to) := ⟨rfl, rfl, rfl, by decide +kernel, rfl, by decide +kernel, by decide +kernel⟩
abbrev s_Run___init__ : Stmt := inClass (topS 23) 0
abbrev N_Run___init__ : List Str := ["self", "program", "answers"]
theorem sc_Run___init__ : FnScope N_Run___init__ ["self", "program", "answers"] (defScope s_Run___init__) := ⟨rfl, rfl, rfl, by decide +kernel, rfl, by decide +kernel, by decide +kernel⟩
abbrev s_Run_answer : Stmt := inClass (topS 23) 4
abbrev N_Run_answer : List Str := ["self", "many", "found"]
theorem sc_Run_answer : FnScope N_Run_answer ["self", "many"] (defScope s_Run_answer) := ⟨rfl, rfl, rfl, by decide +kernel, rfl, by decide +kernel, by decide +kernel⟩
abbrev s_Run_take_away : Stmt := inClass (topS 23) 7
abbrev N_Run_take_away : List Str := ["self", "frame", "word", "boxes", "dropped", "box"]
theorem sc_Run_take_away : FnScope N_Run_take_away ["self", "frame", "word"] (defScope s_Run_take_away) := ⟨rfl, rfl, rfl, by decide +kernel, rfl, by decide +kernel, by decide +kernel⟩
abbrev s_Run_change : Stmt := inClass (topS 23) 6
abbrev N_Run_change : List Str := ["self", "word", "frame", "one", "ones", "other", "others"]
theorem sc_Run_change : FnScope N_Run_change ["self", "word"] (defScope s_Run_change) := ⟨rfl, rfl, rfl, by decide +kernel, rfl, by decide +kernel, by decide +kernel⟩
abbrev s_Run_call : Stmt := inClass (topS 23) 8
abbrev N_Run_call : List Str := ["self", "word", "frame", "fresh", "box", "param"]
theorem sc_Run_call : FnScope N_Run_call ["self", "word"] (defScope s_Run_call) := ⟨rfl, rfl, rfl, by decide +kernel, rfl, by decide +kernel, by decide +kernel⟩
abbrev s_Run_fall : Stmt := inClass (topS 23) 3
abbrev N_Run_fall : List Str := ["self", "fault", "place", "frame"]
theorem sc_Run_fall : FnScope N_Run_fall ["self", "fault"] (defScope s_Run_fall) := ⟨rfl, rfl, rfl, by decide +kernel, rfl, by decide +kernel, by decide +kernel⟩
abbrev s_Run_lead : Stmt := inClass (topS 23) 9
abbrev N_Run_lead : List Str := ["self", "word"]
theorem sc_Run_lead : FnScope N_Run_lead ["self", "word"] (defScope s_Run_lead) := ⟨rfl, rfl, rfl, by decide +kernel, rfl, by decide +kernel, by decide +kernel⟩
abbrev s_Run_step : Stmt := inClass (topS 23) 10
abbrev N_Run_step : List Str := ["self", "word"]
theorem sc_Run_step : FnScope N_Run_step ["self"] (defScope s_Run_step) := ⟨rfl, rfl, rfl, by decide +kernel, rfl, by decide +kernel, by decide +kernel⟩
abbrev s_Run_wants : Stmt := inClass (topS 23) 5
abbrev N_Run_wants : List Str := ["self", "word"]
theorem sc_Run_wants : FnScope N_Run_wants ["self"] (defScope s_Run_wants) := ⟨rfl, rfl, rfl, by decide +kernel, rfl, by decide +kernel, by decide +kernel⟩
abbrev s_run : Stmt := topS 24
abbrev N_run : List Str := ["program", "answers", "most", "one", "told"]
theorem sc_run : FnScope N_run ["program", "answers", "most"] (defScope s_run) := ⟨rfl, rfl, rfl, by decide +kernel, rfl, by decide +kernel, by decide +kernel⟩
abbrev s__law_deck : Stmt := topS 26
abbrev N__law_deck : List Str := ["_law_script", "_law_cells", "_law_k", "_law_cell"]
theorem sc__law_deck : FnScope N__law_deck ["_law_script"] (defScope s__law_deck) := ⟨rfl, rfl, rfl, by decide +kernel, rfl, by decide +kernel, by decide +kernel⟩
abbrev s__law_draw : Stmt := topS 27
abbrev N__law_draw : List Str := ["_law_deck_here", "_law_most", "_law_cell", "_law_number"]
theorem sc__law_draw : FnScope N__law_draw ["_law_deck_here", "_law_most"] (defScope s__law_draw) := ⟨rfl, rfl, rfl, by decide +kernel, rfl, by decide +kernel, by decide +kernel⟩
abbrev s__law_some : Stmt := topS 28
abbrev N__law_some : List Str := ["_law_deck_here", "_law_few", "_law_most"]
theorem sc__law_some : FnScope N__law_some ["_law_deck_here", "_law_few", "_law_most"] (defScope s__law_some) := ⟨rfl, rfl, rfl, by decide +kernel, rfl, by decide +kernel, by decide +kernel⟩
abbrev s__law_names : Stmt := topS 29
abbrev N__law_names : List Str := ["_law_deck_here", "_law_many", "_law_letters", "_law_base", "_law_at", "_law_first", "_law_found", "_law_k"]
theorem sc__law_names : FnScope N__law_names ["_law_deck_here", "_law_many"] (defScope s__law_names) := ⟨rfl, rfl, rfl, by decide +kernel, rfl, by decide +kernel, by decide +kernel⟩
abbrev s__law_boxes : Stmt := topS 30
abbrev N__law_boxes : List Str := ["_law_deck_here", "_law_names_here", "_law_some_here"]
theorem sc__law_boxes : FnScope N__law_boxes ["_law_deck_here", "_law_names_here"] (defScope s__law_boxes) := ⟨rfl, rfl, rfl, by decide +kernel, rfl, by decide +kernel, by decide +kernel⟩
abbrev s__law_one_of : Stmt := topS 31
abbrev N__law_one_of : List Str := ["_law_deck_here", "_law_some_here"]
theorem sc__law_one_of : FnScope N__law_one_of ["_law_deck_here", "_law_some_here"] (defScope s__law_one_of) := ⟨rfl, rfl, rfl, by decide +kernel, rfl, by decide +kernel, by decide +kernel⟩
abbrev s__law_picked : Stmt := topS 32
abbrev N__law_picked : List Str := ["_law_deck_here", "_law_some_here", "_law_many", "_law_rest", "_law_found", "_law_k"]
theorem sc__law_picked : FnScope N__law_picked ["_law_deck_here", "_law_some_here", "_law_many"] (defScope s__law_picked) := ⟨rfl, rfl, rfl, by decide +kernel, rfl, by decide +kernel, by decide +kernel⟩
abbrev s__law_plain : Stmt := topS 33
abbrev N__law_plain : List Str := ["_law_deck_here", "_law_case", "_law_way", "_law_x", "_law_y", "_law_z", "_law_k"]
theorem sc__law_plain : FnScope N__law_plain ["_law_deck_here", "_law_case"] (defScope s__law_plain) := ⟨rfl, rfl, rfl, by decide +kernel, rfl, by decide +kernel, by decide +kernel⟩
abbrev s__law_formed : Stmt := topS 34
abbrev N__law_formed : List Str := ["_law_found", "_law_one"]
theorem sc__law_formed : FnScope N__law_formed ["_law_found"] (defScope s__law_formed) := ⟨rfl, rfl, rfl, by decide +kernel, rfl, by decide +kernel, by decide +kernel⟩
abbrev s__law_done : Stmt := topS 35
abbrev N__law_done : List Str := ["_law_things", "_law_word", "_law_number", "_law_some_here", "_law_boxes_here", "_law_gone", "_law_worths", "_law_box", "_law_pair"]
theorem sc__law_done : FnScope N__law_done ["_law_things", "_law_word", "_law_number"] (defScope s__law_done) := ⟨rfl, rfl, rfl, by decide +kernel, rfl, by decide +kernel, by decide +kernel⟩
abbrev s__law_due : Stmt := topS 36
abbrev N__law_due : List Str := ["_law_row", "_law_numbers", "_law_most", "_law_things", "_law_told", "_law_gone", "_law_k", "_law_held", "_law_more", "_law_out", "_law_box", "_law_pair", "_law_number", "_law_worths"]
theorem sc__law_due : FnScope N__law_due ["_law_row", "_law_numbers", "_law_most"] (defScope s__law_due) := ⟨rfl, rfl, rfl, by decide +kernel, rfl, by decide +kernel, by decide +kernel⟩
abbrev s_law : Stmt := topS 37
abbrev N_law : List Str := ["_law_script", "_law_deck_here", "_law_names_here", "_law_case", "_law_row", "_law_numbers", "_law_answers", "_law_word", "_law_most", "_law_worth", "_law_found", "_law_x", "_law_y", "_law_k"]
theorem sc_law : FnScope N_law ["_law_script"] (defScope s_law) := ⟨rfl, rfl, rfl, by decide +kernel, rfl, by decide +kernel, by decide +kernel⟩
structure Tx (w : World) (K : Frag) (mg : Str → Option Value) where
  a_first_name : Addr
  d_first_name : FuncData
  F_first_name : Fun K "first_name" "first_name" s_first_name a_first_name d_first_name
  b_first_name : Binds K d_first_name ["box"] []
  g_first_name : mg "first_name" = some (.ref a_first_name)
  a_in_record : Addr
  d_in_record : FuncData
  F_in_record : Fun K "in_record" "in_record" s_in_record a_in_record d_in_record
  b_in_record : Binds K d_in_record ["box", "name"] []
  g_in_record : mg "in_record" = some (.ref a_in_record)
  a_rows_in : Addr
  d_rows_in : FuncData
  F_rows_in : Fun K "rows_in" "rows_in" s_rows_in a_rows_in d_rows_in
  b_rows_in : Binds K d_rows_in ["word"] []
  g_rows_in : mg "rows_in" = some (.ref a_rows_in)
  a_def_of : Addr
  d_def_of : FuncData
  F_def_of : Fun K "def_of" "def_of" s_def_of a_def_of d_def_of
  b_def_of : Binds K d_def_of ["program", "name"] []
  g_def_of : mg "def_of" = some (.ref a_def_of)
  a_row_of : Addr
  d_row_of : FuncData
  F_row_of : Fun K "row_of" "row_of" s_row_of a_row_of d_row_of
  b_row_of : Binds K d_row_of ["program", "name"] []
  g_row_of : mg "row_of" = some (.ref a_row_of)
  a_words_along : Addr
  d_words_along : FuncData
  F_words_along : Fun K "words_along" "words_along" s_words_along a_words_along d_words_along
  b_words_along : Binds K d_words_along ["program", "place"] []
  g_words_along : mg "words_along" = some (.ref a_words_along)
  a_word_at : Addr
  d_word_at : FuncData
  F_word_at : Fun K "word_at" "word_at" s_word_at a_word_at d_word_at
  b_word_at : Binds K d_word_at ["program", "place"] []
  g_word_at : mg "word_at" = some (.ref a_word_at)
  a_behind : Addr
  d_behind : FuncData
  F_behind : Fun K "behind" "behind" s_behind a_behind d_behind
  b_behind : Binds K d_behind ["program", "place"] []
  g_behind : mg "behind" = some (.ref a_behind)
  a_first_place : Addr
  d_first_place : FuncData
  F_first_place : Fun K "first_place" "first_place" s_first_place a_first_place d_first_place
  b_first_place : Binds K d_first_place ["program", "name"] []
  g_first_place : mg "first_place" = some (.ref a_first_place)
  a_inside : Addr
  d_inside : FuncData
  F_inside : Fun K "inside" "inside" s_inside a_inside d_inside
  b_inside : Binds K d_inside ["program", "place", "number"] []
  g_inside : mg "inside" = some (.ref a_inside)
  a_out_of : Addr
  d_out_of : FuncData
  F_out_of : Fun K "out_of" "out_of" s_out_of a_out_of d_out_of
  b_out_of : Binds K d_out_of ["program", "place", "n"] []
  g_out_of : mg "out_of" = some (.ref a_out_of)
  a_is_answer : Addr
  d_is_answer : FuncData
  F_is_answer : Fun K "is_answer" "is_answer" s_is_answer a_is_answer d_is_answer
  b_is_answer : Binds K d_is_answer ["thing", "many"] []
  g_is_answer : mg "is_answer" = some (.ref a_is_answer)
  a_both : Addr
  d_both : FuncData
  F_both : Fun K "both" "both" s_both a_both d_both
  b_both : Binds K d_both ["ones", "others"] []
  g_both : mg "both" = some (.ref a_both)
  a_Frame_shown : Addr
  d_Frame_shown : FuncData
  F_Frame_shown : Fun K "shown" "Frame.shown" s_Frame_shown a_Frame_shown d_Frame_shown
  b_Frame_shown : Binds K d_Frame_shown ["self"] []
  a_Frame___init__ : Addr
  d_Frame___init__ : FuncData
  F_Frame___init__ : Fun K "__init__" "Frame.__init__" s_Frame___init__ a_Frame___init__ d_Frame___init__
  b_Frame___init__ : Binds K d_Frame___init__ ["self", "called_at"] []
  a_Frame_empty : Addr
  d_Frame_empty : FuncData
  F_Frame_empty : Fun K "empty" "Frame.empty" s_Frame_empty a_Frame_empty d_Frame_empty
  b_Frame_empty : Binds K d_Frame_empty ["self", "boxes"] []
  a_Frame_kept_here : Addr
  d_Frame_kept_here : FuncData
  F_Frame_kept_here : Fun K "kept_here" "Frame.kept_here" s_Frame_kept_here a_Frame_kept_here d_Frame_kept_here
  b_Frame_kept_here : Binds K d_Frame_kept_here ["self", "place"] []
  a_Frame_look : Addr
  d_Frame_look : FuncData
  F_Frame_look : Fun K "look" "Frame.look" s_Frame_look a_Frame_look d_Frame_look
  b_Frame_look : Binds K d_Frame_look ["self", "box"] []
  a_Frame_put : Addr
  d_Frame_put : FuncData
  F_Frame_put : Fun K "put" "Frame.put" s_Frame_put a_Frame_put d_Frame_put
  b_Frame_put : Binds K d_Frame_put ["self", "box", "thing"] []
  a_Run_go_back : Addr
  d_Run_go_back : FuncData
  F_Run_go_back : Fun K "go_back" "Run.go_back" s_Run_go_back a_Run_go_back d_Run_go_back
  b_Run_go_back : Binds K d_Run_go_back ["self"] []
  a_Run_come_to : Addr
  d_Run_come_to : FuncData
  F_Run_come_to : Fun K "come_to" "Run.come_to" s_Run_come_to a_Run_come_to d_Run_come_to
  b_Run_come_to : Binds K d_Run_come_to ["self", "place"] []
  a_Run___init__ : Addr
  d_Run___init__ : FuncData
  F_Run___init__ : Fun K "__init__" "Run.__init__" s_Run___init__ a_Run___init__ d_Run___init__
  b_Run___init__ : Binds K d_Run___init__ ["self", "program", "answers"] []
  a_Run_answer : Addr
  d_Run_answer : FuncData
  F_Run_answer : Fun K "answer" "Run.answer" s_Run_answer a_Run_answer d_Run_answer
  b_Run_answer : Binds K d_Run_answer ["self", "many"] []
  a_Run_take_away : Addr
  d_Run_take_away : FuncData
  F_Run_take_away : Fun K "take_away" "Run.take_away" s_Run_take_away a_Run_take_away d_Run_take_away
  b_Run_take_away : Binds K d_Run_take_away ["self", "frame", "word"] []
  a_Run_change : Addr
  d_Run_change : FuncData
  F_Run_change : Fun K "change" "Run.change" s_Run_change a_Run_change d_Run_change
  b_Run_change : Binds K d_Run_change ["self", "word"] []
  a_Run_call : Addr
  d_Run_call : FuncData
  F_Run_call : Fun K "call" "Run.call" s_Run_call a_Run_call d_Run_call
  b_Run_call : Binds K d_Run_call ["self", "word"] []
  a_Run_fall : Addr
  d_Run_fall : FuncData
  F_Run_fall : Fun K "fall" "Run.fall" s_Run_fall a_Run_fall d_Run_fall
  b_Run_fall : Binds K d_Run_fall ["self", "fault"] []
  a_Run_lead : Addr
  d_Run_lead : FuncData
  F_Run_lead : Fun K "lead" "Run.lead" s_Run_lead a_Run_lead d_Run_lead
  b_Run_lead : Binds K d_Run_lead ["self", "word"] []
  a_Run_step : Addr
  d_Run_step : FuncData
  F_Run_step : Fun K "step" "Run.step" s_Run_step a_Run_step d_Run_step
  b_Run_step : Binds K d_Run_step ["self"] []
  a_Run_wants : Addr
  d_Run_wants : FuncData
  F_Run_wants : Fun K "wants" "Run.wants" s_Run_wants a_Run_wants d_Run_wants
  b_Run_wants : Binds K d_Run_wants ["self"] []
  a_run : Addr
  d_run : FuncData
  F_run : Fun K "run" "run" s_run a_run d_run
  b_run : Binds K d_run ["program", "answers", "most"] []
  g_run : mg "run" = some (.ref a_run)
  a__law_deck : Addr
  d__law_deck : FuncData
  F__law_deck : Fun K "_law_deck" "_law_deck" s__law_deck a__law_deck d__law_deck
  b__law_deck : Binds K d__law_deck ["_law_script"] []
  g__law_deck : mg "_law_deck" = some (.ref a__law_deck)
  a__law_draw : Addr
  d__law_draw : FuncData
  F__law_draw : Fun K "_law_draw" "_law_draw" s__law_draw a__law_draw d__law_draw
  b__law_draw : Binds K d__law_draw ["_law_deck_here", "_law_most"] []
  g__law_draw : mg "_law_draw" = some (.ref a__law_draw)
  a__law_some : Addr
  d__law_some : FuncData
  F__law_some : Fun K "_law_some" "_law_some" s__law_some a__law_some d__law_some
  b__law_some : Binds K d__law_some ["_law_deck_here", "_law_few", "_law_most"] []
  g__law_some : mg "_law_some" = some (.ref a__law_some)
  a__law_names : Addr
  d__law_names : FuncData
  F__law_names : Fun K "_law_names" "_law_names" s__law_names a__law_names d__law_names
  b__law_names : Binds K d__law_names ["_law_deck_here", "_law_many"] []
  g__law_names : mg "_law_names" = some (.ref a__law_names)
  a__law_boxes : Addr
  d__law_boxes : FuncData
  F__law_boxes : Fun K "_law_boxes" "_law_boxes" s__law_boxes a__law_boxes d__law_boxes
  b__law_boxes : Binds K d__law_boxes ["_law_deck_here", "_law_names_here"] []
  g__law_boxes : mg "_law_boxes" = some (.ref a__law_boxes)
  a__law_one_of : Addr
  d__law_one_of : FuncData
  F__law_one_of : Fun K "_law_one_of" "_law_one_of" s__law_one_of a__law_one_of d__law_one_of
  b__law_one_of : Binds K d__law_one_of ["_law_deck_here", "_law_some_here"] []
  g__law_one_of : mg "_law_one_of" = some (.ref a__law_one_of)
  a__law_picked : Addr
  d__law_picked : FuncData
  F__law_picked : Fun K "_law_picked" "_law_picked" s__law_picked a__law_picked d__law_picked
  b__law_picked : Binds K d__law_picked ["_law_deck_here", "_law_some_here", "_law_many"] []
  g__law_picked : mg "_law_picked" = some (.ref a__law_picked)
  a__law_plain : Addr
  d__law_plain : FuncData
  F__law_plain : Fun K "_law_plain" "_law_plain" s__law_plain a__law_plain d__law_plain
  b__law_plain : Binds K d__law_plain ["_law_deck_here", "_law_case"] []
  g__law_plain : mg "_law_plain" = some (.ref a__law_plain)
  a__law_formed : Addr
  d__law_formed : FuncData
  F__law_formed : Fun K "_law_formed" "_law_formed" s__law_formed a__law_formed d__law_formed
  b__law_formed : Binds K d__law_formed ["_law_found"] []
  g__law_formed : mg "_law_formed" = some (.ref a__law_formed)
  a__law_done : Addr
  d__law_done : FuncData
  F__law_done : Fun K "_law_done" "_law_done" s__law_done a__law_done d__law_done
  b__law_done : Binds K d__law_done ["_law_things", "_law_word", "_law_number"] []
  g__law_done : mg "_law_done" = some (.ref a__law_done)
  a__law_due : Addr
  d__law_due : FuncData
  F__law_due : Fun K "_law_due" "_law_due" s__law_due a__law_due d__law_due
  b__law_due : Binds K d__law_due ["_law_row", "_law_numbers", "_law_most"] []
  g__law_due : mg "_law_due" = some (.ref a__law_due)
  a_law : Addr
  d_law : FuncData
  F_law : Fun K "law" "law" s_law a_law d_law
  b_law : Binds K d_law ["_law_script"] []
  g_law : mg "law" = some (.ref a_law)
  z_bool : mg "bool" = none
  z_enumerate : mg "enumerate" = none
  z_int : mg "int" = none
  z_isinstance : mg "isinstance" = none
  z_len : mg "len" = none
  z_list : mg "list" = none
  z_min : mg "min" = none
  z_range : mg "range" = none
  z_set : mg "set" = none
  z_sorted : mg "sorted" = none
  z_str : mg "str" = none
  z_sum : mg "sum" = none
  z_tuple : mg "tuple" = none
  u_NUMBERS : Value
  x_NUMBERS : V
  g_NUMBERS : mg "NUMBERS" = some u_NUMBERS
  v_NUMBERS : RelV x_NUMBERS u_NUMBERS
  r_NUMBERS : ∀ H, Rp K H x_NUMBERS c_NUMBERS
  u_REST : Value
  x_REST : V
  g_REST : mg "REST" = some u_REST
  v_REST : RelV x_REST u_REST
  r_REST : ∀ H, Rp K H x_REST c_REST
  C_Frame : Addr
  cl_Frame : clsA K "Frame" = some C_Frame
  ck_Frame : Cls K C_Frame
  g_Frame : mg "Frame" = some (.ref C_Frame)
  mk_Frame : Mk K C_Frame a_Frame___init__
  me_Frame_shown : Meth K C_Frame "shown" a_Frame_shown
  me_Frame_empty : Meth K C_Frame "empty" a_Frame_empty
  me_Frame_kept_here : Meth K C_Frame "kept_here" a_Frame_kept_here
  me_Frame_look : Meth K C_Frame "look" a_Frame_look
  me_Frame_put : Meth K C_Frame "put" a_Frame_put
  na_Frame_called_at : NoAttr K C_Frame "called_at"
  na_Frame_things : NoAttr K C_Frame "things"
  C_Run : Addr
  cl_Run : clsA K "Run" = some C_Run
  ck_Run : Cls K C_Run
  g_Run : mg "Run" = some (.ref C_Run)
  mk_Run : Mk K C_Run a_Run___init__
  me_Run_go_back : Meth K C_Run "go_back" a_Run_go_back
  me_Run_come_to : Meth K C_Run "come_to" a_Run_come_to
  me_Run_answer : Meth K C_Run "answer" a_Run_answer
  me_Run_take_away : Meth K C_Run "take_away" a_Run_take_away
  me_Run_change : Meth K C_Run "change" a_Run_change
  me_Run_call : Meth K C_Run "call" a_Run_call
  me_Run_fall : Meth K C_Run "fall" a_Run_fall
  me_Run_lead : Meth K C_Run "lead" a_Run_lead
  me_Run_step : Meth K C_Run "step" a_Run_step
  me_Run_wants : Meth K C_Run "wants" a_Run_wants
  na_Run_frames : NoAttr K C_Run "frames"
  na_Run_given : NoAttr K C_Run "given"
  na_Run_leavings : NoAttr K C_Run "leavings"
  na_Run_numbers : NoAttr K C_Run "numbers"
  na_Run_over_by : NoAttr K C_Run "over_by"
  na_Run_place : NoAttr K C_Run "place"
  na_Run_steps : NoAttr K C_Run "steps"
  na_Run_used : NoAttr K C_Run "used"
  na_Run_whole : NoAttr K C_Run "whole"
section
variable {P : Program} {w : World} {K : Frag} {mg : Str → Option Value} {base : Heap}
theorem ok_first_name (T : Tx w K mg) : FnOk P w K mg base CX0 1 T.a_first_name T.d_first_name ["box"] (spF K 1 f_first_name) := by
  have sc := sc_first_name
  refine fn_J T.F_first_name sc rfl rfl (by decide) fun cdv A outer s H E hr => ?_
  exact (jss_one (js_ret (jc_sh (je_ix (je_m1 PySem.F.slot_str_split PySem.F.type_str_split mt_split ms_split (je_var (i := 0) rfl (by first | exact Or.inl rfl | exact Or.inr (Or.inl rfl) | exact Or.inr (Or.inr rfl))) je_str) je_int (fun _ _ => rfl)))))
theorem ok_in_record (T : Tx w K mg) : FnOk P w K mg base CX0 2 T.a_in_record T.d_in_record ["box", "name"] (spF K 2 f_in_record) := by
  have sc := sc_in_record
  refine fn_J T.F_in_record sc rfl rfl (by decide) fun cdv A outer s H E hr => ?_
  exact (jss_one (js_ret (jc_sh (je_and (je_cmp op_inA os_in je_str (je_var (i := 0) rfl (by first | exact Or.inl rfl | exact Or.inr (Or.inl rfl) | exact Or.inr (Or.inr rfl))) (by rfl)) (je_one (je_cmp (op_eqA hr.units) os_eq (je_cell (jc_call (ok_first_name T) rfl (hr.mono (by decide)) (by rfl) T.g_first_name T.F_first_name.kp T.b_first_name (ja_c (jc_sh (je_var (i := 0) rfl (by first | exact Or.inl rfl | exact Or.inr (Or.inl rfl) | exact Or.inr (Or.inr rfl)))) ja_nil))) (je_var (i := 1) rfl (by first | exact Or.inl rfl | exact Or.inr (Or.inl rfl) | exact Or.inr (Or.inr rfl))) (nomark _)))))))
theorem ok_rows_in (T : Tx w K mg) : FnOk P w K mg base CX0 1 T.a_rows_in T.d_rows_in ["word"] (spF K 1 f_rows_in) := by
  have sc := sc_rows_in
  refine fn_J T.F_rows_in sc rfl rfl (by decide) fun cdv A outer s H E hr => ?_
  exact (jss_cons (js_if (jt_cmp (op_eqA hr.units) os_eq (je_ix (je_var (i := 0) rfl (by first | exact Or.inl rfl | exact Or.inr (Or.inl rfl) | exact Or.inr (Or.inr rfl))) je_int (fun _ _ => rfl)) je_str (nomark _))
    (jss_one (js_ret (jc_sh (je_ix (je_var (i := 0) rfl (by first | exact Or.inl rfl | exact Or.inr (Or.inl rfl) | exact Or.inr (Or.inr rfl))) je_int (fun _ _ => rfl)))))
    jss_nil)
    (jss_cons (js_if (jt_cmp (op_eqA hr.units) os_eq (je_ix (je_var (i := 0) rfl (by first | exact Or.inl rfl | exact Or.inr (Or.inl rfl) | exact Or.inr (Or.inr rfl))) je_int (fun _ _ => rfl)) je_str (nomark _))
    (jss_one (js_ret (jc_sh (je_tup (ja_c (jc_sh (je_ix (je_var (i := 0) rfl (by first | exact Or.inl rfl | exact Or.inr (Or.inl rfl) | exact Or.inr (Or.inr rfl))) je_int (fun _ _ => rfl))) ja_nil)))))
    jss_nil)
    (jss_one (js_ret (jc_sh (je_tup ja_nil))))))
theorem ok_def_of (T : Tx w K mg) : FnOk P w K mg base CX0 1 T.a_def_of T.d_def_of ["program", "name"] (spF K 2 f_def_of) := by
  have sc := sc_def_of
  refine fn_J T.F_def_of sc rfl rfl (by decide) fun cdv A outer s H E hr => ?_
  exact (jss_cons (js_for PassesOwn.never rfl (ji_any (je_ix (je_var (i := 0) rfl (by first | exact Or.inl rfl | exact Or.inr (Or.inl rfl) | exact Or.inr (Or.inr rfl))) je_int (fun _ _ => rfl))) (jg_name (i := 2) sc.nd rfl (by first | exact Or.inl rfl | exact Or.inr rfl))
    (jss_one (js_if (jt_cmp (op_eqA hr.units) os_eq (je_ix (je_var (i := 2) rfl (by first | exact Or.inl rfl | exact Or.inr (Or.inl rfl) | exact Or.inr (Or.inr rfl))) je_int (fun _ _ => rfl)) (je_var (i := 1) rfl (by first | exact Or.inl rfl | exact Or.inr (Or.inl rfl) | exact Or.inr (Or.inr rfl))) (nomark _))
    (jss_one (js_ret (jc_sh (je_var (i := 2) rfl (by first | exact Or.inl rfl | exact Or.inr (Or.inl rfl) | exact Or.inr (Or.inr rfl))))))
    jss_nil)))
    (jss_one (js_ret (jc_sh je_non))))
theorem ok_row_of (T : Tx w K mg) : FnOk P w K mg base CX0 2 T.a_row_of T.d_row_of ["program", "name"] (spF K 2 f_row_of) := by
  have sc := sc_row_of
  refine fn_J T.F_row_of sc rfl rfl (by decide) fun cdv A outer s H E hr => ?_
  exact (jss_cons (js_if (jt_cmp (op_eqA hr.units) os_eq (je_var (i := 1) rfl (by first | exact Or.inl rfl | exact Or.inr (Or.inl rfl) | exact Or.inr (Or.inr rfl))) je_str (nomark _))
    (jss_one (js_ret (jc_sh (je_ix (je_var (i := 0) rfl (by first | exact Or.inl rfl | exact Or.inr (Or.inl rfl) | exact Or.inr (Or.inr rfl))) je_int (fun _ _ => rfl)))))
    jss_nil)
    (jss_one (js_ret (jc_sh (je_ix (je_cell (jc_call (ok_def_of T) rfl (hr.mono (by decide)) (by rfl) T.g_def_of T.F_def_of.kp T.b_def_of (ja_c (jc_sh (je_var (i := 0) rfl (by first | exact Or.inl rfl | exact Or.inr (Or.inl rfl) | exact Or.inr (Or.inr rfl)))) (ja_c (jc_sh (je_var (i := 1) rfl (by first | exact Or.inl rfl | exact Or.inr (Or.inl rfl) | exact Or.inr (Or.inr rfl)))) ja_nil)))) je_int (fun _ _ => rfl))))))
theorem ok_words_along (T : Tx w K mg) : FnOk P w K mg base CX0 3 T.a_words_along T.d_words_along ["program", "place"] (spF K 2 f_words_along) := by
  have sc := sc_words_along
  refine fn_J T.F_words_along sc rfl rfl (by decide) fun cdv A outer s H E hr => ?_
  exact (jss_cons (js_set (i := 2) sc.nd rfl (by first | exact Or.inl rfl | exact Or.inr rfl) (jc_sh (je_cell (jc_call (ok_row_of T) rfl (hr.mono (by decide)) (by rfl) T.g_row_of T.F_row_of.kp T.b_row_of (ja_c (jc_sh (je_var (i := 0) rfl (by first | exact Or.inl rfl | exact Or.inr (Or.inl rfl) | exact Or.inr (Or.inr rfl)))) (ja_c (jc_sh (je_ix (je_var (i := 1) rfl (by first | exact Or.inl rfl | exact Or.inr (Or.inl rfl) | exact Or.inr (Or.inr rfl))) je_int (fun _ _ => rfl))) ja_nil))))))
    (jss_cons (js_set (i := 3) sc.nd rfl (by first | exact Or.inl rfl | exact Or.inr rfl) (jc_lo (jl_new (jo_lst (ja_c (jc_sh (je_tup (ja_c (jc_sh (je_var (i := 2) rfl (by first | exact Or.inl rfl | exact Or.inr (Or.inl rfl) | exact Or.inr (Or.inr rfl)))) (ja_c (jc_sh (je_ix (je_var (i := 1) rfl (by first | exact Or.inl rfl | exact Or.inr (Or.inl rfl) | exact Or.inr (Or.inr rfl))) je_int (fun _ _ => rfl))) ja_nil)))) ja_nil)))))
    (jss_cons (js_for PassesOwn.never rfl (ji_range3 (by rfl) T.z_range je_int (je_callB call_lenA cs_len (by rfl) T.z_len (by decide +kernel) (ja_c (jc_sh (je_var (i := 1) rfl (by first | exact Or.inl rfl | exact Or.inr (Or.inl rfl) | exact Or.inr (Or.inr rfl)))) ja_nil)) je_int) (jg_name (i := 4) sc.nd rfl (by first | exact Or.inl rfl | exact Or.inr rfl))
    (jss_cons (js_set (i := 2) sc.nd rfl (by first | exact Or.inl rfl | exact Or.inr rfl) (jc_sh (je_ix (je_cell (jc_call (ok_rows_in T) rfl (hr.mono (by decide)) (by rfl) T.g_rows_in T.F_rows_in.kp T.b_rows_in (ja_c (jc_sh (je_ix (je_var (i := 2) rfl (by first | exact Or.inl rfl | exact Or.inr (Or.inl rfl) | exact Or.inr (Or.inr rfl))) (je_ix (je_var (i := 1) rfl (by first | exact Or.inl rfl | exact Or.inr (Or.inl rfl) | exact Or.inr (Or.inr rfl))) (je_bin op_sub os_sub (je_var (i := 4) rfl (by first | exact Or.inl rfl | exact Or.inr (Or.inl rfl) | exact Or.inr (Or.inr rfl))) je_int) (fun _ _ => rfl)) (fun _ _ => rfl))) ja_nil))) (je_ix (je_var (i := 1) rfl (by first | exact Or.inl rfl | exact Or.inr (Or.inl rfl) | exact Or.inr (Or.inr rfl))) (je_var (i := 4) rfl (by first | exact Or.inl rfl | exact Or.inr (Or.inl rfl) | exact Or.inr (Or.inr rfl))) (fun _ _ => rfl)) (fun _ _ => rfl))))
    (jss_one (js_app (jl_var (i := 3) rfl (by first | exact Or.inl rfl | exact Or.inr (Or.inl rfl) | exact Or.inr (Or.inr rfl))) (jc_sh (je_tup (ja_c (jc_sh (je_var (i := 2) rfl (by first | exact Or.inl rfl | exact Or.inr (Or.inl rfl) | exact Or.inr (Or.inr rfl)))) (ja_c (jc_sh (je_ix (je_var (i := 1) rfl (by first | exact Or.inl rfl | exact Or.inr (Or.inl rfl) | exact Or.inr (Or.inr rfl))) (je_bin op_addA os_add (je_var (i := 4) rfl (by first | exact Or.inl rfl | exact Or.inr (Or.inl rfl) | exact Or.inr (Or.inr rfl))) je_int) (fun _ _ => rfl))) ja_nil)))) (PE0 := (pe_bm PySem.F.plainAttrs_list PySem.F.slot_list_append PySem.F.type_list_append mt_append (jl_var (i := 3) rfl (by first | exact Or.inl rfl | exact Or.inr (Or.inl rfl) | exact Or.inr (Or.inr rfl))) (pa_cons (jc_sh (je_tup (ja_c (jc_sh (je_var (i := 2) rfl (by first | exact Or.inl rfl | exact Or.inr (Or.inl rfl) | exact Or.inr (Or.inr rfl)))) (ja_c (jc_sh (je_ix (je_var (i := 1) rfl (by first | exact Or.inl rfl | exact Or.inr (Or.inl rfl) | exact Or.inr (Or.inr rfl))) (je_bin op_addA os_add (je_var (i := 4) rfl (by first | exact Or.inl rfl | exact Or.inr (Or.inl rfl) | exact Or.inr (Or.inr rfl))) je_int) (fun _ _ => rfl))) ja_nil)))) pa_nil)))))))
    (jss_one (js_ret (jc_sh (je_seal (jl_var (i := 3) rfl (by first | exact Or.inl rfl | exact Or.inr (Or.inl rfl) | exact Or.inr (Or.inr rfl))))))))))
theorem ok_word_at (T : Tx w K mg) : FnOk P w K mg base CX0 4 T.a_word_at T.d_word_at ["program", "place"] (spF K 2 f_word_at) := by
  have sc := sc_word_at
  refine fn_J T.F_word_at sc rfl rfl (by decide) fun cdv A outer s H E hr => ?_
  exact (jss_cons (js_asg (jc_sh (je_ix (je_cell (jc_call (ok_words_along T) rfl (hr.mono (by decide)) (by rfl) T.g_words_along T.F_words_along.kp T.b_words_along (ja_c (jc_sh (je_var (i := 0) rfl (by first | exact Or.inl rfl | exact Or.inr (Or.inl rfl) | exact Or.inr (Or.inr rfl)))) (ja_c (jc_sh (je_var (i := 1) rfl (by first | exact Or.inl rfl | exact Or.inr (Or.inl rfl) | exact Or.inr (Or.inr rfl)))) ja_nil)))) (je_neg je_int) (fun _ _ => rfl))) (jg_tup rfl (jgs_cons (jg_name (i := 2) sc.nd rfl (by first | exact Or.inl rfl | exact Or.inr rfl)) (jgs_cons (jg_name (i := 3) sc.nd rfl (by first | exact Or.inl rfl | exact Or.inr rfl)) jgs_nil))))
    (jss_cons (js_if (jt_cmp (op_eqA hr.units) os_eq (je_var (i := 3) rfl (by first | exact Or.inl rfl | exact Or.inr (Or.inl rfl) | exact Or.inr (Or.inr rfl))) (je_callB call_lenA cs_len (by rfl) T.z_len (by decide +kernel) (ja_c (jc_sh (je_var (i := 2) rfl (by first | exact Or.inl rfl | exact Or.inr (Or.inl rfl) | exact Or.inr (Or.inr rfl)))) ja_nil)) (nomark _))
    (jss_one (js_ret (jc_sh je_non)))
    jss_nil)
    (jss_one (js_ret (jc_sh (je_ix (je_var (i := 2) rfl (by first | exact Or.inl rfl | exact Or.inr (Or.inl rfl) | exact Or.inr (Or.inr rfl))) (je_var (i := 3) rfl (by first | exact Or.inl rfl | exact Or.inr (Or.inl rfl) | exact Or.inr (Or.inr rfl))) (fun _ _ => rfl)))))))
theorem ok_G7 (T : Tx w K mg) : ∀ k : Nat, FnOk P w K mg base CX0 (4 + k) T.a_behind T.d_behind ["program", "place"] (spF K 2 (f_G7 k 0))
  | 0 => fn_bad rfl
  | k + 1 => by
    have ih := ok_G7 T k
    exact (by
      have sc := sc_behind
      refine fn_J T.F_behind sc rfl rfl (by decide) fun cdv A outer s H E hr => ?_
      exact (jss_cons (js_asg (jc_sh (je_ix (je_cell (jc_call (ok_words_along T) rfl (hr.mono (Nat.le_trans (m := 4) (by decide) (Nat.le_add_right _ _))) (by rfl) T.g_words_along T.F_words_along.kp T.b_words_along (ja_c (jc_sh (je_var (i := 0) rfl (by first | exact Or.inl rfl | exact Or.inr (Or.inl rfl) | exact Or.inr (Or.inr rfl)))) (ja_c (jc_sh (je_var (i := 1) rfl (by first | exact Or.inl rfl | exact Or.inr (Or.inl rfl) | exact Or.inr (Or.inr rfl)))) ja_nil)))) (je_neg je_int) (fun _ _ => rfl))) (jg_tup rfl (jgs_cons (jg_name (i := 3) sc.nd rfl (by first | exact Or.inl rfl | exact Or.inr rfl)) (jgs_cons (jg_name (i := 4) sc.nd rfl (by first | exact Or.inl rfl | exact Or.inr rfl)) jgs_nil))))
    (jss_cons (js_if (PW.pt (jw_or (jt_cmp op_ltA os_ord (je_bin op_addA os_add (je_var (i := 4) rfl (by first | exact Or.inl rfl | exact Or.inr (Or.inl rfl) | exact Or.inr (Or.inr rfl))) je_int) (je_callB call_lenA cs_len (by rfl) T.z_len (by decide +kernel) (ja_c (jc_sh (je_var (i := 3) rfl (by first | exact Or.inl rfl | exact Or.inr (Or.inl rfl) | exact Or.inr (Or.inr rfl)))) ja_nil)) (nomark _)) (jw_or1 (jt_cmp (op_eqA hr.units) os_eq (je_callB call_lenA cs_len (by rfl) T.z_len (by decide +kernel) (ja_c (jc_sh (je_var (i := 1) rfl (by first | exact Or.inl rfl | exact Or.inr (Or.inl rfl) | exact Or.inr (Or.inr rfl)))) ja_nil)) je_int (nomark _)))))
    (jss_one (js_ret (jc_sh (je_bin op_addA os_add (je_slice (je_var (i := 1) rfl (by first | exact Or.inl rfl | exact Or.inr (Or.inl rfl) | exact Or.inr (Or.inr rfl))) jp_none (jp_some (je_neg je_int))) (je_tup (ja_c (jc_sh (je_bin op_addA os_add (je_var (i := 4) rfl (by first | exact Or.inl rfl | exact Or.inr (Or.inl rfl) | exact Or.inr (Or.inr rfl))) je_int)) ja_nil))))))
    jss_nil)
    (jss_cons (js_set (i := 2) sc.nd rfl (by first | exact Or.inl rfl | exact Or.inr rfl) (jc_sh (je_slice (je_var (i := 1) rfl (by first | exact Or.inl rfl | exact Or.inr (Or.inl rfl) | exact Or.inr (Or.inr rfl))) jp_none (jp_some (je_neg je_int)))))
    (jss_cons (js_if (jt_cmp (op_eqA hr.units) os_eq (je_ix (je_cell (jc_call (ok_word_at T) rfl (hr.mono (Nat.le_trans (m := 4) (by decide) (Nat.le_add_right _ _))) (by rfl) T.g_word_at T.F_word_at.kp T.b_word_at (ja_c (jc_sh (je_var (i := 0) rfl (by first | exact Or.inl rfl | exact Or.inr (Or.inl rfl) | exact Or.inr (Or.inr rfl)))) (ja_c (jc_sh (je_var (i := 2) rfl (by first | exact Or.inl rfl | exact Or.inr (Or.inl rfl) | exact Or.inr (Or.inr rfl)))) ja_nil)))) je_int (fun _ _ => rfl)) je_str (nomark _))
    (jss_one (js_ret (jc_sh (je_var (i := 2) rfl (by first | exact Or.inl rfl | exact Or.inr (Or.inl rfl) | exact Or.inr (Or.inr rfl))))))
    jss_nil)
    (jss_one (js_ret (jc_sh (je_cell (jc_call ih rfl hr (by rfl) T.g_behind T.F_behind.kp T.b_behind (ja_c (jc_sh (je_var (i := 0) rfl (by first | exact Or.inl rfl | exact Or.inr (Or.inl rfl) | exact Or.inr (Or.inr rfl)))) (ja_c (jc_sh (je_var (i := 2) rfl (by first | exact Or.inl rfl | exact Or.inr (Or.inl rfl) | exact Or.inr (Or.inr rfl)))) ja_nil))))))))))))
theorem ok_first_place (T : Tx w K mg) : FnOk P w K mg base CX0 1 T.a_first_place T.d_first_place ["program", "name"] (spF K 2 f_first_place) := by
  have sc := sc_first_place
  refine fn_J T.F_first_place sc rfl rfl (by decide) fun cdv A outer s H E hr => ?_
  exact (jss_one (js_ret (jc_sh (je_tup (ja_c (jc_sh (je_var (i := 1) rfl (by first | exact Or.inl rfl | exact Or.inr (Or.inl rfl) | exact Or.inr (Or.inr rfl)))) (ja_c (jc_sh je_int) ja_nil))))))
theorem ok_inside (T : Tx w K mg) : FnOk P w K mg base CX0 19 T.a_inside T.d_inside ["program", "place", "number"] (spF K 3 f_inside) := by
  have sc := sc_inside
  refine fn_J T.F_inside sc rfl rfl (by decide) fun cdv A outer s H E hr => ?_
  exact (jss_cons (js_set (i := 3) sc.nd rfl (by first | exact Or.inl rfl | exact Or.inr rfl) (jc_sh (je_cell (jc_call (ok_word_at T) rfl (hr.mono (by decide)) (by rfl) T.g_word_at T.F_word_at.kp T.b_word_at (ja_c (jc_sh (je_var (i := 0) rfl (by first | exact Or.inl rfl | exact Or.inr (Or.inl rfl) | exact Or.inr (Or.inr rfl)))) (ja_c (jc_sh (je_var (i := 1) rfl (by first | exact Or.inl rfl | exact Or.inr (Or.inl rfl) | exact Or.inr (Or.inr rfl)))) ja_nil))))))
    (jss_cons (js_if (jt_cmp (op_neA hr.units) os_ne (je_ix (je_cell (jc_call (ok_rows_in T) rfl (hr.mono (by decide)) (by rfl) T.g_rows_in T.F_rows_in.kp T.b_rows_in (ja_c (jc_sh (je_var (i := 3) rfl (by first | exact Or.inl rfl | exact Or.inr (Or.inl rfl) | exact Or.inr (Or.inr rfl)))) ja_nil))) (je_var (i := 2) rfl (by first | exact Or.inl rfl | exact Or.inr (Or.inl rfl) | exact Or.inr (Or.inr rfl))) (fun _ _ => rfl)) (je_tup ja_nil) (nomark _))
    (jss_one (js_ret (jc_sh (je_bin op_addA os_add (je_var (i := 1) rfl (by first | exact Or.inl rfl | exact Or.inr (Or.inl rfl) | exact Or.inr (Or.inr rfl))) (je_tup (ja_c (jc_sh (je_var (i := 2) rfl (by first | exact Or.inl rfl | exact Or.inr (Or.inl rfl) | exact Or.inr (Or.inr rfl)))) (ja_c (jc_sh je_int) ja_nil)))))))
    jss_nil)
    (jss_cons (js_if (jt_cmp (op_eqA hr.units) os_eq (je_ix (je_var (i := 3) rfl (by first | exact Or.inl rfl | exact Or.inr (Or.inl rfl) | exact Or.inr (Or.inr rfl))) je_int (fun _ _ => rfl)) je_str (nomark _))
    (jss_one (js_ret (jc_sh (je_var (i := 1) rfl (by first | exact Or.inl rfl | exact Or.inr (Or.inl rfl) | exact Or.inr (Or.inr rfl))))))
    jss_nil)
    (jss_one (js_ret (jc_sh (je_cell (jc_call ((ok_G7 T 14)) rfl (hr.mono (by decide)) (by rfl) T.g_behind T.F_behind.kp T.b_behind (ja_c (jc_sh (je_var (i := 0) rfl (by first | exact Or.inl rfl | exact Or.inr (Or.inl rfl) | exact Or.inr (Or.inr rfl)))) (ja_c (jc_sh (je_var (i := 1) rfl (by first | exact Or.inl rfl | exact Or.inr (Or.inl rfl) | exact Or.inr (Or.inr rfl)))) ja_nil))))))))))
theorem ok_out_of (T : Tx w K mg) : FnOk P w K mg base CX0 19 T.a_out_of T.d_out_of ["program", "place", "n"] (spF K 3 f_out_of) := by
  have sc := sc_out_of
  refine fn_J T.F_out_of sc rfl rfl (by decide) fun cdv A outer s H E hr => ?_
  exact (jss_cons (js_set (i := 3) sc.nd rfl (by first | exact Or.inl rfl | exact Or.inr rfl) (jc_sh (je_slice (je_var (i := 1) rfl (by first | exact Or.inl rfl | exact Or.inr (Or.inl rfl) | exact Or.inr (Or.inr rfl))) jp_none (jp_some (je_neg je_int)))))
    (jss_cons (js_while 1000000 PassesOwn.never (jt_cmp op_gtA os_ord (je_var (i := 2) rfl (by first | exact Or.inl rfl | exact Or.inr (Or.inl rfl) | exact Or.inr (Or.inr rfl))) je_int (nomark _))
    (jss_cons (js_if (jt_cmp (op_eqA hr.units) os_eq (je_ix (je_cell (jc_call (ok_word_at T) rfl (hr.mono (by decide)) (by rfl) T.g_word_at T.F_word_at.kp T.b_word_at (ja_c (jc_sh (je_var (i := 0) rfl (by first | exact Or.inl rfl | exact Or.inr (Or.inl rfl) | exact Or.inr (Or.inr rfl)))) (ja_c (jc_sh (je_var (i := 3) rfl (by first | exact Or.inl rfl | exact Or.inr (Or.inl rfl) | exact Or.inr (Or.inr rfl)))) ja_nil)))) je_int (fun _ _ => rfl)) je_str (nomark _))
    (jss_one (js_set (i := 2) sc.nd rfl (by first | exact Or.inl rfl | exact Or.inr rfl) (jc_sh (je_bin op_sub os_sub (je_var (i := 2) rfl (by first | exact Or.inl rfl | exact Or.inr (Or.inl rfl) | exact Or.inr (Or.inr rfl))) je_int))))
    jss_nil)
    (jss_one (js_if (jt_cmp op_gtA os_ord (je_var (i := 2) rfl (by first | exact Or.inl rfl | exact Or.inr (Or.inl rfl) | exact Or.inr (Or.inr rfl))) je_int (nomark _))
    (jss_one (js_set (i := 3) sc.nd rfl (by first | exact Or.inl rfl | exact Or.inr rfl) (jc_sh (je_slice (je_var (i := 3) rfl (by first | exact Or.inl rfl | exact Or.inr (Or.inl rfl) | exact Or.inr (Or.inr rfl))) jp_none (jp_some (je_neg je_int))))))
    jss_nil))))
    (jss_one (js_ret (jc_sh (je_cell (jc_call ((ok_G7 T 14)) rfl (hr.mono (by decide)) (by rfl) T.g_behind T.F_behind.kp T.b_behind (ja_c (jc_sh (je_var (i := 0) rfl (by first | exact Or.inl rfl | exact Or.inr (Or.inl rfl) | exact Or.inr (Or.inr rfl)))) (ja_c (jc_sh (je_var (i := 3) rfl (by first | exact Or.inl rfl | exact Or.inr (Or.inl rfl) | exact Or.inr (Or.inr rfl)))) ja_nil)))))))))
theorem ok_is_answer (T : Tx w K mg) : FnOk P w K mg base CX0 1 T.a_is_answer T.d_is_answer ["thing", "many"] (spF K 2 f_is_answer) := by
  have sc := sc_is_answer
  refine fn_J T.F_is_answer sc rfl rfl (by decide) fun cdv A outer s H E hr => ?_
  exact (jss_one (js_ret (jc_sh (je_and (je_isi (T := "int") (T' := "int") (je_var (i := 0) rfl (by first | exact Or.inl rfl | exact Or.inr (Or.inl rfl) | exact Or.inr (Or.inr rfl))) (by rfl) T.z_isinstance (by rfl) T.z_int (by decide +kernel)) (je_and (je_not (je_isi (T := "bool") (T' := "bool") (je_var (i := 0) rfl (by first | exact Or.inl rfl | exact Or.inr (Or.inl rfl) | exact Or.inr (Or.inr rfl))) (by rfl) T.z_isinstance (by rfl) T.z_bool (by decide +kernel))) (je_one (je_chain op_leA op_ltA ob_ord os_ord je_int (je_var (i := 0) rfl (by first | exact Or.inl rfl | exact Or.inr (Or.inl rfl) | exact Or.inr (Or.inr rfl))) (je_var (i := 1) rfl (by first | exact Or.inl rfl | exact Or.inr (Or.inl rfl) | exact Or.inr (Or.inr rfl))))))))))
theorem ok_both (T : Tx w K mg) : FnOk P w K mg base CX0 1 T.a_both T.d_both ["ones", "others"] (spF K 2 f_both) := by
  have sc := sc_both
  refine fn_J T.F_both sc rfl rfl (by decide) fun cdv A outer s H E hr => ?_
  exact (jss_one (js_ret (jc_sh (je_callTy call_tuple_of cs_tuple (by rfl) T.z_tuple (by decide +kernel) (ja_c (jc_sh (je_sortSet rfl (by rfl) T.z_sorted (by decide +kernel) (by rfl) T.z_set (by decide +kernel) (jc_sh (je_bin op_addA os_add (je_var (i := 0) rfl (by first | exact Or.inl rfl | exact Or.inr (Or.inl rfl) | exact Or.inr (Or.inr rfl))) (je_var (i := 1) rfl (by first | exact Or.inl rfl | exact Or.inr (Or.inl rfl) | exact Or.inr (Or.inr rfl))))))) ja_nil)))))
theorem ok_Frame_shown (T : Tx w K mg) : FnOk P w K mg base CX0 1 T.a_Frame_shown T.d_Frame_shown ["self"] (spF K 1 f_Frame_shown) := by
  have sc := sc_Frame_shown
  refine fn_J T.F_Frame_shown sc rfl rfl (by decide) fun cdv A outer s H E hr => ?_
  exact (jss_one (js_ret (jc_sh (je_callTy call_tuple_of cs_tuple (by rfl) T.z_tuple (by decide +kernel) (ja_c (jc_sh (je_fr (jo_comp (own := [("box", 1)]) (by decide) rfl sc.nd (ji_any (je_sortD rfl (by rfl) T.z_sorted (by decide +kernel) (jl_cell (jc_fld T.cl_Frame T.ck_Frame T.na_Frame_things (jl_var (i := 0) rfl (by first | exact Or.inl rfl | exact Or.inr (Or.inl rfl) | exact Or.inr (Or.inr rfl))))))) (blkOk_by (N := N_Frame_shown) (sc := defScope s_Frame_shown) (by decide +kernel)) (fun _ _ _ _ _ => (jg_name (i := 1) sc.nd rfl (by first | exact Or.inl rfl | exact Or.inr rfl))) (fun _ _ _ _ _ => jts_nil) (fun _ _ _ _ _ => (je_bin op_addA os_add (je_tup (ja_c (jc_sh (je_var (i := 1) rfl (by first | exact Or.inl rfl | exact Or.inr (Or.inl rfl) | exact Or.inr (Or.inr rfl)))) ja_nil)) (je_cell (jc_dget hr.units (jl_cell (jc_fld T.cl_Frame T.ck_Frame T.na_Frame_things (jl_var (i := 0) rfl (by first | exact Or.inl rfl | exact Or.inr (Or.inl rfl) | exact Or.inr (Or.inr rfl))))) (je_var (i := 1) rfl (by first | exact Or.inl rfl | exact Or.inr (Or.inl rfl) | exact Or.inr (Or.inr rfl))) (fun _ _ => rfl)))))))) ja_nil)))))
theorem ok_Frame___init__ (T : Tx w K mg) : FnOk P w K mg base CX0 1 T.a_Frame___init__ T.d_Frame___init__ ["self", "called_at"] (spF K 2 f_Frame___init__) := by
  have sc := sc_Frame___init__
  refine fn_J T.F_Frame___init__ sc rfl rfl (by decide) fun cdv A outer s H E hr => ?_
  exact (jss_cons (js_setF T.cl_Frame T.ck_Frame T.na_Frame_called_at (jl_var (i := 0) rfl (by first | exact Or.inl rfl | exact Or.inr (Or.inl rfl) | exact Or.inr (Or.inr rfl))) (jc_sh (je_var (i := 1) rfl (by first | exact Or.inl rfl | exact Or.inr (Or.inl rfl) | exact Or.inr (Or.inr rfl)))))
    (jss_one (js_setF T.cl_Frame T.ck_Frame T.na_Frame_things (jl_var (i := 0) rfl (by first | exact Or.inl rfl | exact Or.inr (Or.inl rfl) | exact Or.inr (Or.inr rfl))) (jc_lo jl_dnew))))
theorem ok_Frame_empty (T : Tx w K mg) : FnOk P w K mg base CX0 1 T.a_Frame_empty T.d_Frame_empty ["self", "boxes"] (spF K 2 f_Frame_empty) := by
  have sc := sc_Frame_empty
  refine fn_J T.F_Frame_empty sc rfl rfl (by decide) fun cdv A outer s H E hr => ?_
  exact (jss_one (js_for PassesOwn.never rfl (ji_any (je_var (i := 1) rfl (by first | exact Or.inl rfl | exact Or.inr (Or.inl rfl) | exact Or.inr (Or.inr rfl)))) (jg_name (i := 2) sc.nd rfl (by first | exact Or.inl rfl | exact Or.inr rfl))
    (jss_one (js_expr (jc_sh (je_cell (jc_dpop2 (jl_cell (jc_fld T.cl_Frame T.ck_Frame T.na_Frame_things (jl_var (i := 0) rfl (by first | exact Or.inl rfl | exact Or.inr (Or.inl rfl) | exact Or.inr (Or.inr rfl))))) (je_var (i := 2) rfl (by first | exact Or.inl rfl | exact Or.inr (Or.inl rfl) | exact Or.inr (Or.inr rfl))) (jc_sh je_non) ⟨rfl, rfl, rfl, rfl⟩)))))))
theorem ok_Frame_kept_here (T : Tx w K mg) : FnOk P w K mg base CX0 1 T.a_Frame_kept_here T.d_Frame_kept_here ["self", "place"] (spF K 2 f_Frame_kept_here) := by
  have sc := sc_Frame_kept_here
  refine fn_J T.F_Frame_kept_here sc rfl rfl (by decide) fun cdv A outer s H E hr => ?_
  exact (jss_one (js_ret (jc_sh (je_fr (jo_comp (own := [("box", 2)]) (by decide) rfl sc.nd (ji_any (je_sortD rfl (by rfl) T.z_sorted (by decide +kernel) (jl_cell (jc_fld T.cl_Frame T.ck_Frame T.na_Frame_things (jl_var (i := 0) rfl (by first | exact Or.inl rfl | exact Or.inr (Or.inl rfl) | exact Or.inr (Or.inr rfl))))))) (blkOk_by (N := N_Frame_kept_here) (sc := defScope s_Frame_kept_here) (by decide +kernel)) (fun _ _ _ _ _ => (jg_name (i := 2) sc.nd rfl (by first | exact Or.inl rfl | exact Or.inr rfl))) (fun _ _ _ _ _ => (jts_one (jt_cmp (op_neA hr.units) os_ne (je_ix (je_cell (jc_dget hr.units (jl_cell (jc_fld T.cl_Frame T.ck_Frame T.na_Frame_things (jl_var (i := 0) rfl (by first | exact Or.inl rfl | exact Or.inr (Or.inl rfl) | exact Or.inr (Or.inr rfl))))) (je_var (i := 2) rfl (by first | exact Or.inl rfl | exact Or.inr (Or.inl rfl) | exact Or.inr (Or.inr rfl))) (fun _ _ => rfl))) je_int (fun _ _ => rfl)) (je_tup ja_nil) (nomark _)))) (fun _ _ _ _ _ => (je_tup (ja_c (jc_sh (je_var (i := 1) rfl (by first | exact Or.inl rfl | exact Or.inr (Or.inl rfl) | exact Or.inr (Or.inr rfl)))) (ja_c (jc_sh (je_var (i := 2) rfl (by first | exact Or.inl rfl | exact Or.inr (Or.inl rfl) | exact Or.inr (Or.inr rfl)))) (ja_c (jc_sh (je_ix (je_cell (jc_dget hr.units (jl_cell (jc_fld T.cl_Frame T.ck_Frame T.na_Frame_things (jl_var (i := 0) rfl (by first | exact Or.inl rfl | exact Or.inr (Or.inl rfl) | exact Or.inr (Or.inr rfl))))) (je_var (i := 2) rfl (by first | exact Or.inl rfl | exact Or.inr (Or.inl rfl) | exact Or.inr (Or.inr rfl))) (fun _ _ => rfl))) je_int (fun _ _ => rfl))) ja_nil))))))))))
theorem ok_Frame_look (T : Tx w K mg) : FnOk P w K mg base CX0 1 T.a_Frame_look T.d_Frame_look ["self", "box"] (spF K 2 f_Frame_look) := by
  have sc := sc_Frame_look
  refine fn_J T.F_Frame_look sc rfl rfl (by decide) fun cdv A outer s H E hr => ?_
  exact (jss_one (js_ret (jc_sh (je_cell (jc_dget2 hr.units (jl_cell (jc_fld T.cl_Frame T.ck_Frame T.na_Frame_things (jl_var (i := 0) rfl (by first | exact Or.inl rfl | exact Or.inr (Or.inl rfl) | exact Or.inr (Or.inr rfl))))) (je_var (i := 1) rfl (by first | exact Or.inl rfl | exact Or.inr (Or.inl rfl) | exact Or.inr (Or.inr rfl))) (jc_sh (je_tup (ja_c (jc_sh je_int) (ja_c (jc_sh (je_tup ja_nil)) ja_nil)))) ⟨rfl, rfl, rfl, rfl⟩)))))
theorem ok_Frame_put (T : Tx w K mg) : FnOk P w K mg base CX0 1 T.a_Frame_put T.d_Frame_put ["self", "box", "thing"] (spF K 3 f_Frame_put) := by
  have sc := sc_Frame_put
  refine fn_J T.F_Frame_put sc rfl rfl (by decide) fun cdv A outer s H E hr => ?_
  exact (jss_one (js_if (jt_cmp (op_eqA hr.units) os_eq (je_var (i := 2) rfl (by first | exact Or.inl rfl | exact Or.inr (Or.inl rfl) | exact Or.inr (Or.inr rfl))) (je_tup (ja_c (jc_sh je_int) (ja_c (jc_sh (je_tup ja_nil)) ja_nil))) (nomark _))
    (jss_one (js_expr (jc_sh (je_cell (jc_dpop2 (jl_cell (jc_fld T.cl_Frame T.ck_Frame T.na_Frame_things (jl_var (i := 0) rfl (by first | exact Or.inl rfl | exact Or.inr (Or.inl rfl) | exact Or.inr (Or.inr rfl))))) (je_var (i := 1) rfl (by first | exact Or.inl rfl | exact Or.inr (Or.inl rfl) | exact Or.inr (Or.inr rfl))) (jc_sh je_non) ⟨rfl, rfl, rfl, rfl⟩)))))
    (jss_one (js_dput hr.units (jl_cell (jc_fld T.cl_Frame T.ck_Frame T.na_Frame_things (jl_var (i := 0) rfl (by first | exact Or.inl rfl | exact Or.inr (Or.inl rfl) | exact Or.inr (Or.inr rfl))))) (je_var (i := 1) rfl (by first | exact Or.inl rfl | exact Or.inr (Or.inl rfl) | exact Or.inr (Or.inr rfl))) (jc_sh (je_var (i := 2) rfl (by first | exact Or.inl rfl | exact Or.inr (Or.inl rfl) | exact Or.inr (Or.inr rfl))))))))
theorem ok_Run_go_back (T : Tx w K mg) : FnOk P w K mg base CX0 19 T.a_Run_go_back T.d_Run_go_back ["self"] (spF K 1 f_Run_go_back) := by
  have sc := sc_Run_go_back
  refine fn_J T.F_Run_go_back sc rfl rfl (by decide) fun cdv A outer s H E hr => ?_
  exact (jss_cons (js_set (i := 1) sc.nd rfl (by first | exact Or.inl rfl | exact Or.inr rfl) (jc_lo (jl_cell (jc_pop0 (PE0 := (pe_bm0 PySem.F.plainAttrs_list PySem.F.slot_list_pop PySem.F.type_list_pop mt_pop (jl_cell (jc_fld T.cl_Run T.ck_Run T.na_Run_frames (jl_var (i := 0) rfl (by first | exact Or.inl rfl | exact Or.inr (Or.inl rfl) | exact Or.inr (Or.inr rfl)))))))))))
    (jss_one (js_if (jt_cmpC (op_eqA hr.units) os_eq (jc_lo (jl_cell (jc_fld T.cl_Run T.ck_Run T.na_Run_frames (jl_var (i := 0) rfl (by first | exact Or.inl rfl | exact Or.inr (Or.inl rfl) | exact Or.inr (Or.inr rfl)))))) (jc_sh (je_lst ja_nil)) (nomark _))
    (jss_cons (js_ext (jl_cell (jc_fld T.cl_Run T.ck_Run T.na_Run_leavings (jl_var (i := 0) rfl (by first | exact Or.inl rfl | exact Or.inr (Or.inl rfl) | exact Or.inr (Or.inr rfl))))) (jc_sh (je_cell (jc_meth T.cl_Frame T.ck_Frame T.me_Frame_kept_here (ok_Frame_kept_here T) rfl (hr.mono (by decide)) T.b_Frame_kept_here (jl_var (i := 1) rfl (by first | exact Or.inl rfl | exact Or.inr (Or.inl rfl) | exact Or.inr (Or.inr rfl))) (ja_c (jc_sh (je_cell (jc_fld T.cl_Run T.ck_Run T.na_Run_place (jl_var (i := 0) rfl (by first | exact Or.inl rfl | exact Or.inr (Or.inl rfl) | exact Or.inr (Or.inr rfl)))))) ja_nil)))) (PE0 := (pe_bm PySem.F.plainAttrs_list PySem.F.slot_list_extend PySem.F.type_list_extend mt_extA (jl_cell (jc_fld T.cl_Run T.ck_Run T.na_Run_leavings (jl_var (i := 0) rfl (by first | exact Or.inl rfl | exact Or.inr (Or.inl rfl) | exact Or.inr (Or.inr rfl))))) (pa_cons (jc_sh (je_cell (jc_meth T.cl_Frame T.ck_Frame T.me_Frame_kept_here (ok_Frame_kept_here T) rfl (hr.mono (by decide)) T.b_Frame_kept_here (jl_var (i := 1) rfl (by first | exact Or.inl rfl | exact Or.inr (Or.inl rfl) | exact Or.inr (Or.inr rfl))) (ja_c (jc_sh (je_cell (jc_fld T.cl_Run T.ck_Run T.na_Run_place (jl_var (i := 0) rfl (by first | exact Or.inl rfl | exact Or.inr (Or.inl rfl) | exact Or.inr (Or.inr rfl)))))) ja_nil)))) pa_nil))))
    (jss_one (js_setF T.cl_Run T.ck_Run T.na_Run_over_by (jl_var (i := 0) rfl (by first | exact Or.inl rfl | exact Or.inr (Or.inl rfl) | exact Or.inr (Or.inr rfl))) (jc_sh (je_tup (ja_c (jc_sh je_str) ja_nil))))))
    (jss_cons js_bad (jss_cons js_bad (jss_cons js_bad (jss_cons js_bad (jss_cons js_bad (jss_cons js_bad (jss_one js_bad))))))))))
theorem ok_Run_come_to (T : Tx w K mg) : FnOk P w K mg base CX0 20 T.a_Run_come_to T.d_Run_come_to ["self", "place"] (spF K 2 f_Run_come_to) := by
  have sc := sc_Run_come_to
  refine fn_J T.F_Run_come_to sc rfl rfl (by decide) fun cdv A outer s H E hr => ?_
  exact (jss_cons (js_setF T.cl_Run T.ck_Run T.na_Run_place (jl_var (i := 0) rfl (by first | exact Or.inl rfl | exact Or.inr (Or.inl rfl) | exact Or.inr (Or.inr rfl))) (jc_sh (je_var (i := 1) rfl (by first | exact Or.inl rfl | exact Or.inr (Or.inl rfl) | exact Or.inr (Or.inr rfl)))))
    (jss_one (js_while 1000000 PassesOwn.never (PW.pt (jw_and (jt_cmp op_isA os_is (je_cell (jc_fld T.cl_Run T.ck_Run T.na_Run_over_by (jl_var (i := 0) rfl (by first | exact Or.inl rfl | exact Or.inr (Or.inl rfl) | exact Or.inr (Or.inr rfl))))) je_non (nomark _)) (jw_and1 (jt_cmp op_isA os_is (je_cell (jc_call (ok_word_at T) rfl (hr.mono (by decide)) (by rfl) T.g_word_at T.F_word_at.kp T.b_word_at (ja_c (jc_sh (je_cell (jc_fld T.cl_Run T.ck_Run T.na_Run_whole (jl_var (i := 0) rfl (by first | exact Or.inl rfl | exact Or.inr (Or.inl rfl) | exact Or.inr (Or.inr rfl)))))) (ja_c (jc_sh (je_cell (jc_fld T.cl_Run T.ck_Run T.na_Run_place (jl_var (i := 0) rfl (by first | exact Or.inl rfl | exact Or.inr (Or.inl rfl) | exact Or.inr (Or.inr rfl)))))) ja_nil)))) je_non (nomark _)))))
    (jss_one (js_expr (jc_sh (je_cell (jc_meth0 T.cl_Run T.ck_Run T.me_Run_go_back (ok_Run_go_back T) (hr.mono (by decide)) T.b_Run_go_back (jl_var (i := 0) rfl (by first | exact Or.inl rfl | exact Or.inr (Or.inl rfl) | exact Or.inr (Or.inr rfl)))))))))))
theorem ok_Run___init__ (T : Tx w K mg) : FnOk P w K mg base CX0 21 T.a_Run___init__ T.d_Run___init__ ["self", "program", "answers"] (spF K 3 f_Run___init__) := by
  have sc := sc_Run___init__
  refine fn_J T.F_Run___init__ sc rfl rfl (by decide) fun cdv A outer s H E hr => ?_
  exact (jss_cons (js_setF T.cl_Run T.ck_Run T.na_Run_whole (jl_var (i := 0) rfl (by first | exact Or.inl rfl | exact Or.inr (Or.inl rfl) | exact Or.inr (Or.inr rfl))) (jc_sh (je_var (i := 1) rfl (by first | exact Or.inl rfl | exact Or.inr (Or.inl rfl) | exact Or.inr (Or.inr rfl)))))
    (jss_cons (js_setF T.cl_Run T.ck_Run T.na_Run_given (jl_var (i := 0) rfl (by first | exact Or.inl rfl | exact Or.inr (Or.inl rfl) | exact Or.inr (Or.inr rfl))) (jc_sh (je_var (i := 2) rfl (by first | exact Or.inl rfl | exact Or.inr (Or.inl rfl) | exact Or.inr (Or.inr rfl)))))
    (jss_cons (js_setF T.cl_Run T.ck_Run T.na_Run_used (jl_var (i := 0) rfl (by first | exact Or.inl rfl | exact Or.inr (Or.inl rfl) | exact Or.inr (Or.inr rfl))) (jc_sh je_int))
    (jss_cons (js_setF T.cl_Run T.ck_Run T.na_Run_steps (jl_var (i := 0) rfl (by first | exact Or.inl rfl | exact Or.inr (Or.inl rfl) | exact Or.inr (Or.inr rfl))) (jc_sh je_int))
    (jss_cons (js_setF T.cl_Run T.ck_Run T.na_Run_numbers (jl_var (i := 0) rfl (by first | exact Or.inl rfl | exact Or.inr (Or.inl rfl) | exact Or.inr (Or.inr rfl))) (jc_lo (jl_new (jo_lst ja_nil))))
    (jss_cons (js_setF T.cl_Run T.ck_Run T.na_Run_leavings (jl_var (i := 0) rfl (by first | exact Or.inl rfl | exact Or.inr (Or.inl rfl) | exact Or.inr (Or.inr rfl))) (jc_lo (jl_new (jo_lst ja_nil))))
    (jss_cons (js_setF T.cl_Run T.ck_Run T.na_Run_frames (jl_var (i := 0) rfl (by first | exact Or.inl rfl | exact Or.inr (Or.inl rfl) | exact Or.inr (Or.inr rfl))) (jc_lo (jl_new (jo_lst (ja_c (jc_lo (jl_make T.cl_Frame T.mk_Frame (ok_Frame___init__ T) rfl (hr.mono (by decide)) (by rfl) T.g_Frame T.b_Frame___init__ (ja_c (jc_sh je_non) ja_nil))) ja_nil)))))
    (jss_cons (js_setF T.cl_Run T.ck_Run T.na_Run_over_by (jl_var (i := 0) rfl (by first | exact Or.inl rfl | exact Or.inr (Or.inl rfl) | exact Or.inr (Or.inr rfl))) (jc_sh je_non))
    (jss_cons (js_setF T.cl_Run T.ck_Run T.na_Run_place (jl_var (i := 0) rfl (by first | exact Or.inl rfl | exact Or.inr (Or.inl rfl) | exact Or.inr (Or.inr rfl))) (jc_sh je_non))
    (jss_one (js_expr (jc_sh (je_cell (jc_meth T.cl_Run T.ck_Run T.me_Run_come_to (ok_Run_come_to T) rfl (hr.mono (by decide)) T.b_Run_come_to (jl_var (i := 0) rfl (by first | exact Or.inl rfl | exact Or.inr (Or.inl rfl) | exact Or.inr (Or.inr rfl))) (ja_c (jc_sh (je_cell (jc_call (ok_first_place T) rfl (hr.mono (by decide)) (by rfl) T.g_first_place T.F_first_place.kp T.b_first_place (ja_c (jc_sh (je_var (i := 1) rfl (by first | exact Or.inl rfl | exact Or.inr (Or.inl rfl) | exact Or.inr (Or.inr rfl)))) (ja_c (jc_sh je_str) ja_nil))))) ja_nil)))))))))))))))
theorem ok_Run_answer (T : Tx w K mg) : FnOk P w K mg base CX0 2 T.a_Run_answer T.d_Run_answer ["self", "many"] (spF K 2 f_Run_answer) := by
  have sc := sc_Run_answer
  refine fn_J T.F_Run_answer sc rfl rfl (by decide) fun cdv A outer s H E hr => ?_
  exact (jss_cons (js_set (i := 2) sc.nd rfl (by first | exact Or.inl rfl | exact Or.inr rfl) (jc_sh (je_ix (je_cell (jc_fld T.cl_Run T.ck_Run T.na_Run_given (jl_var (i := 0) rfl (by first | exact Or.inl rfl | exact Or.inr (Or.inl rfl) | exact Or.inr (Or.inr rfl))))) (je_cell (jc_fld T.cl_Run T.ck_Run T.na_Run_used (jl_var (i := 0) rfl (by first | exact Or.inl rfl | exact Or.inr (Or.inl rfl) | exact Or.inr (Or.inr rfl))))) (fun _ _ => rfl))))
    (jss_cons (js_if (jt_not (jt_val (je_cell (jc_call (ok_is_answer T) rfl (hr.mono (by decide)) (by rfl) T.g_is_answer T.F_is_answer.kp T.b_is_answer (ja_c (jc_sh (je_var (i := 2) rfl (by first | exact Or.inl rfl | exact Or.inr (Or.inl rfl) | exact Or.inr (Or.inr rfl)))) (ja_c (jc_sh (je_var (i := 1) rfl (by first | exact Or.inl rfl | exact Or.inr (Or.inl rfl) | exact Or.inr (Or.inr rfl)))) ja_nil))))))
    (jss_one js_bad)
    jss_nil)
    (jss_cons (js_augF (F := fun i j => i + j) T.cl_Run T.ck_Run T.na_Run_used (jl_var (i := 0) rfl (by first | exact Or.inl rfl | exact Or.inr (Or.inl rfl) | exact Or.inr (Or.inr rfl))) in_add)
    (jss_one (js_ret (jc_sh (je_var (i := 2) rfl (by first | exact Or.inl rfl | exact Or.inr (Or.inl rfl) | exact Or.inr (Or.inr rfl)))))))))
theorem ok_Run_take_away (T : Tx w K mg) : FnOk P w K mg base CX0 3 T.a_Run_take_away T.d_Run_take_away ["self", "frame", "word"] (spF K 3 f_Run_take_away) := by
  have sc := sc_Run_take_away
  refine fn_J T.F_Run_take_away sc rfl rfl (by decide) fun cdv A outer s H E hr => ?_
  exact (jss_cons (js_set (i := 3) sc.nd rfl (by first | exact Or.inl rfl | exact Or.inr rfl) (jc_sh (je_lst (ja_c (jc_sh (je_ix (je_var (i := 2) rfl (by first | exact Or.inl rfl | exact Or.inr (Or.inl rfl) | exact Or.inr (Or.inr rfl))) je_int (fun _ _ => rfl))) ja_nil))))
    (jss_cons (js_if (jt_cmp (op_eqA hr.units) os_eq (je_ix (je_var (i := 2) rfl (by first | exact Or.inl rfl | exact Or.inr (Or.inl rfl) | exact Or.inr (Or.inr rfl))) je_int (fun _ _ => rfl)) je_str (nomark _))
    (jss_one (js_lc (mc := (fun m => mSh (mFr m))) (i := 3) (own := [("box", 5)]) (by decide) rfl sc.nd rfl rfl mc_fr (sw_true rfl rfl rfl (by decide +kernel)) (ji_any (je_fr (jo_listD rfl (by rfl) T.z_list (by decide +kernel) (jl_cell (jc_fld T.cl_Frame T.ck_Frame T.na_Frame_things (jl_var (i := 1) rfl (by first | exact Or.inl rfl | exact Or.inr (Or.inl rfl) | exact Or.inr (Or.inr rfl)))))))) (blkOk_by (N := N_Run_take_away) (sc := defScope s_Run_take_away) (by decide +kernel)) (fun _ _ _ _ _ => (jg_name (i := 5) sc.nd rfl (by first | exact Or.inl rfl | exact Or.inr rfl))) (fun _ _ _ _ _ => (jts_one (jt_val (je_cell (jc_call (ok_in_record T) rfl (hr.mono (by decide)) (by rfl) T.g_in_record T.F_in_record.kp T.b_in_record (ja_c (jc_sh (je_var (i := 5) rfl (by first | exact Or.inl rfl | exact Or.inr (Or.inl rfl) | exact Or.inr (Or.inr rfl)))) (ja_c (jc_sh (je_ix (je_var (i := 2) rfl (by first | exact Or.inl rfl | exact Or.inr (Or.inl rfl) | exact Or.inr (Or.inr rfl))) je_int (fun _ _ => rfl))) ja_nil))))))) (fun _ _ _ _ _ => (je_var (i := 5) rfl (by first | exact Or.inl rfl | exact Or.inr (Or.inl rfl) | exact Or.inr (Or.inr rfl))))))
    (jss_one (js_if (jt_cmp (op_eqA hr.units) os_eq (je_ix (je_var (i := 2) rfl (by first | exact Or.inl rfl | exact Or.inr (Or.inl rfl) | exact Or.inr (Or.inr rfl))) je_int (fun _ _ => rfl)) je_str (nomark _))
    (jss_cons (js_set (i := 3) sc.nd rfl (by first | exact Or.inl rfl | exact Or.inr rfl) (jc_sh (je_callTy call_list_of cs_list (by rfl) T.z_list (by decide +kernel) (ja_c (jc_sh (je_ix (je_var (i := 2) rfl (by first | exact Or.inl rfl | exact Or.inr (Or.inl rfl) | exact Or.inr (Or.inr rfl))) je_int (fun _ _ => rfl))) ja_nil))))
    (jss_cons (js_set (i := 4) sc.nd rfl (by first | exact Or.inl rfl | exact Or.inr rfl) (jc_lo (jl_make T.cl_Frame T.mk_Frame (ok_Frame___init__ T) rfl (hr.mono (by decide)) (by rfl) T.g_Frame T.b_Frame___init__ (ja_c (jc_sh je_non) ja_nil))))
    (jss_cons (js_for PassesOwn.never rfl (ji_any (je_var (i := 3) rfl (by first | exact Or.inl rfl | exact Or.inr (Or.inl rfl) | exact Or.inr (Or.inr rfl)))) (jg_name (i := 5) sc.nd rfl (by first | exact Or.inl rfl | exact Or.inr rfl))
    (jss_one (js_expr (jc_sh (je_cell (jc_meth T.cl_Frame T.ck_Frame T.me_Frame_put (ok_Frame_put T) rfl (hr.mono (by decide)) T.b_Frame_put (jl_var (i := 4) rfl (by first | exact Or.inl rfl | exact Or.inr (Or.inl rfl) | exact Or.inr (Or.inr rfl))) (ja_c (jc_sh (je_var (i := 5) rfl (by first | exact Or.inl rfl | exact Or.inr (Or.inl rfl) | exact Or.inr (Or.inr rfl)))) (ja_c (jc_sh (je_cell (jc_meth T.cl_Frame T.ck_Frame T.me_Frame_look (ok_Frame_look T) rfl (hr.mono (by decide)) T.b_Frame_look (jl_var (i := 1) rfl (by first | exact Or.inl rfl | exact Or.inr (Or.inl rfl) | exact Or.inr (Or.inr rfl))) (ja_c (jc_sh (je_var (i := 5) rfl (by first | exact Or.inl rfl | exact Or.inr (Or.inl rfl) | exact Or.inr (Or.inr rfl)))) ja_nil)))) ja_nil))))))))
    (jss_one (js_ext (jl_cell (jc_fld T.cl_Run T.ck_Run T.na_Run_leavings (jl_var (i := 0) rfl (by first | exact Or.inl rfl | exact Or.inr (Or.inl rfl) | exact Or.inr (Or.inr rfl))))) (jc_sh (je_cell (jc_meth T.cl_Frame T.ck_Frame T.me_Frame_kept_here (ok_Frame_kept_here T) rfl (hr.mono (by decide)) T.b_Frame_kept_here (jl_var (i := 4) rfl (by first | exact Or.inl rfl | exact Or.inr (Or.inl rfl) | exact Or.inr (Or.inr rfl))) (ja_c (jc_sh (je_cell (jc_fld T.cl_Run T.ck_Run T.na_Run_place (jl_var (i := 0) rfl (by first | exact Or.inl rfl | exact Or.inr (Or.inl rfl) | exact Or.inr (Or.inr rfl)))))) ja_nil)))) (PE0 := (pe_bm PySem.F.plainAttrs_list PySem.F.slot_list_extend PySem.F.type_list_extend mt_extA (jl_cell (jc_fld T.cl_Run T.ck_Run T.na_Run_leavings (jl_var (i := 0) rfl (by first | exact Or.inl rfl | exact Or.inr (Or.inl rfl) | exact Or.inr (Or.inr rfl))))) (pa_cons (jc_sh (je_cell (jc_meth T.cl_Frame T.ck_Frame T.me_Frame_kept_here (ok_Frame_kept_here T) rfl (hr.mono (by decide)) T.b_Frame_kept_here (jl_var (i := 4) rfl (by first | exact Or.inl rfl | exact Or.inr (Or.inl rfl) | exact Or.inr (Or.inr rfl))) (ja_c (jc_sh (je_cell (jc_fld T.cl_Run T.ck_Run T.na_Run_place (jl_var (i := 0) rfl (by first | exact Or.inl rfl | exact Or.inr (Or.inl rfl) | exact Or.inr (Or.inr rfl)))))) ja_nil)))) pa_nil))))))))
    jss_nil)))
    (jss_one (js_expr (jc_sh (je_cell (jc_meth T.cl_Frame T.ck_Frame T.me_Frame_empty (ok_Frame_empty T) rfl (hr.mono (by decide)) T.b_Frame_empty (jl_var (i := 1) rfl (by first | exact Or.inl rfl | exact Or.inr (Or.inl rfl) | exact Or.inr (Or.inr rfl))) (ja_c (jc_sh (je_var (i := 3) rfl (by first | exact Or.inl rfl | exact Or.inr (Or.inl rfl) | exact Or.inr (Or.inr rfl)))) ja_nil))))))))
theorem ok_Run_change (T : Tx w K mg) : FnOk P w K mg base CX0 4 T.a_Run_change T.d_Run_change ["self", "word"] (spF K 2 f_Run_change) := by
  have sc := sc_Run_change
  refine fn_J T.F_Run_change sc rfl rfl (by decide) fun cdv A outer s H E hr => ?_
  exact (jss_cons (js_set (i := 2) sc.nd rfl (by first | exact Or.inl rfl | exact Or.inr rfl) (jc_lo (jl_cell (jc_ix (jc_lo (jl_cell (jc_fld T.cl_Run T.ck_Run T.na_Run_frames (jl_var (i := 0) rfl (by first | exact Or.inl rfl | exact Or.inr (Or.inl rfl) | exact Or.inr (Or.inr rfl)))))) (je_neg je_int) (fun _ _ => rfl)))))
    (jss_one (js_if (jt_cmp (op_eqA hr.units) os_eq (je_ix (je_var (i := 1) rfl (by first | exact Or.inl rfl | exact Or.inr (Or.inl rfl) | exact Or.inr (Or.inr rfl))) je_int (fun _ _ => rfl)) je_str (nomark _))
    (jss_one (js_expr (jc_sh (je_cell (jc_meth T.cl_Frame T.ck_Frame T.me_Frame_put (ok_Frame_put T) rfl (hr.mono (by decide)) T.b_Frame_put (jl_var (i := 2) rfl (by first | exact Or.inl rfl | exact Or.inr (Or.inl rfl) | exact Or.inr (Or.inr rfl))) (ja_c (jc_sh (je_ix (je_var (i := 1) rfl (by first | exact Or.inl rfl | exact Or.inr (Or.inl rfl) | exact Or.inr (Or.inr rfl))) je_int (fun _ _ => rfl))) (ja_c (jc_sh (je_tup (ja_c (jc_sh (je_cell (jc_meth T.cl_Run T.ck_Run T.me_Run_answer (ok_Run_answer T) rfl (hr.mono (by decide)) T.b_Run_answer (jl_var (i := 0) rfl (by first | exact Or.inl rfl | exact Or.inr (Or.inl rfl) | exact Or.inr (Or.inr rfl))) (ja_c (jc_sh (je_glob (by rfl) T.g_NUMBERS T.v_NUMBERS T.r_NUMBERS)) ja_nil)))) (ja_c (jc_sh (je_tup (ja_c (jc_sh (je_ix (je_var (i := 1) rfl (by first | exact Or.inl rfl | exact Or.inr (Or.inl rfl) | exact Or.inr (Or.inr rfl))) je_int (fun _ _ => rfl))) ja_nil))) ja_nil)))) ja_nil)))))))
    (jss_one (js_if (jt_cmp (op_eqA hr.units) os_eq (je_ix (je_var (i := 1) rfl (by first | exact Or.inl rfl | exact Or.inr (Or.inl rfl) | exact Or.inr (Or.inr rfl))) je_int (fun _ _ => rfl)) je_str (nomark _))
    (jss_one (js_expr (jc_sh (je_cell (jc_meth T.cl_Frame T.ck_Frame T.me_Frame_put (ok_Frame_put T) rfl (hr.mono (by decide)) T.b_Frame_put (jl_var (i := 2) rfl (by first | exact Or.inl rfl | exact Or.inr (Or.inl rfl) | exact Or.inr (Or.inr rfl))) (ja_c (jc_sh (je_ix (je_var (i := 1) rfl (by first | exact Or.inl rfl | exact Or.inr (Or.inl rfl) | exact Or.inr (Or.inr rfl))) je_int (fun _ _ => rfl))) (ja_c (jc_sh (je_tup (ja_c (jc_sh (je_cell (jc_meth T.cl_Run T.ck_Run T.me_Run_answer (ok_Run_answer T) rfl (hr.mono (by decide)) T.b_Run_answer (jl_var (i := 0) rfl (by first | exact Or.inl rfl | exact Or.inr (Or.inl rfl) | exact Or.inr (Or.inr rfl))) (ja_c (jc_sh (je_glob (by rfl) T.g_NUMBERS T.v_NUMBERS T.r_NUMBERS)) ja_nil)))) (ja_c (jc_sh (je_tup ja_nil)) ja_nil)))) ja_nil)))))))
    (jss_one (js_if (jt_cmp (op_eqA hr.units) os_eq (je_ix (je_var (i := 1) rfl (by first | exact Or.inl rfl | exact Or.inr (Or.inl rfl) | exact Or.inr (Or.inr rfl))) je_int (fun _ _ => rfl)) je_str (nomark _))
    (jss_one (js_expr (jc_sh (je_cell (jc_meth T.cl_Frame T.ck_Frame T.me_Frame_put (ok_Frame_put T) rfl (hr.mono (by decide)) T.b_Frame_put (jl_var (i := 2) rfl (by first | exact Or.inl rfl | exact Or.inr (Or.inl rfl) | exact Or.inr (Or.inr rfl))) (ja_c (jc_sh (je_ix (je_var (i := 1) rfl (by first | exact Or.inl rfl | exact Or.inr (Or.inl rfl) | exact Or.inr (Or.inr rfl))) je_int (fun _ _ => rfl))) (ja_c (jc_sh (je_tup (ja_c (jc_sh (je_ix (je_var (i := 1) rfl (by first | exact Or.inl rfl | exact Or.inr (Or.inl rfl) | exact Or.inr (Or.inr rfl))) je_int (fun _ _ => rfl))) (ja_c (jc_sh (je_tup ja_nil)) ja_nil)))) ja_nil)))))))
    (jss_one (js_if (jt_cmp (op_eqA hr.units) os_eq (je_ix (je_var (i := 1) rfl (by first | exact Or.inl rfl | exact Or.inr (Or.inl rfl) | exact Or.inr (Or.inr rfl))) je_int (fun _ _ => rfl)) je_str (nomark _))
    (jss_one (js_expr (jc_sh (je_cell (jc_meth T.cl_Frame T.ck_Frame T.me_Frame_put (ok_Frame_put T) rfl (hr.mono (by decide)) T.b_Frame_put (jl_var (i := 2) rfl (by first | exact Or.inl rfl | exact Or.inr (Or.inl rfl) | exact Or.inr (Or.inr rfl))) (ja_c (jc_sh (je_ix (je_var (i := 1) rfl (by first | exact Or.inl rfl | exact Or.inr (Or.inl rfl) | exact Or.inr (Or.inr rfl))) je_int (fun _ _ => rfl))) (ja_c (jc_sh (je_cell (jc_meth T.cl_Frame T.ck_Frame T.me_Frame_look (ok_Frame_look T) rfl (hr.mono (by decide)) T.b_Frame_look (jl_var (i := 2) rfl (by first | exact Or.inl rfl | exact Or.inr (Or.inl rfl) | exact Or.inr (Or.inr rfl))) (ja_c (jc_sh (je_ix (je_var (i := 1) rfl (by first | exact Or.inl rfl | exact Or.inr (Or.inl rfl) | exact Or.inr (Or.inr rfl))) je_int (fun _ _ => rfl))) ja_nil)))) ja_nil)))))))
    (jss_one (js_if (jt_cmp (op_eqA hr.units) os_eq (je_ix (je_var (i := 1) rfl (by first | exact Or.inl rfl | exact Or.inr (Or.inl rfl) | exact Or.inr (Or.inr rfl))) je_int (fun _ _ => rfl)) je_str (nomark _))
    (jss_cons (js_asg (jc_sh (je_cell (jc_meth T.cl_Frame T.ck_Frame T.me_Frame_look (ok_Frame_look T) rfl (hr.mono (by decide)) T.b_Frame_look (jl_var (i := 2) rfl (by first | exact Or.inl rfl | exact Or.inr (Or.inl rfl) | exact Or.inr (Or.inr rfl))) (ja_c (jc_sh (je_ix (je_var (i := 1) rfl (by first | exact Or.inl rfl | exact Or.inr (Or.inl rfl) | exact Or.inr (Or.inr rfl))) je_int (fun _ _ => rfl))) ja_nil)))) (jg_tup rfl (jgs_cons (jg_name (i := 3) sc.nd rfl (by first | exact Or.inl rfl | exact Or.inr rfl)) (jgs_cons (jg_name (i := 4) sc.nd rfl (by first | exact Or.inl rfl | exact Or.inr rfl)) jgs_nil))))
    (jss_cons (js_asg (jc_sh (je_cell (jc_meth T.cl_Frame T.ck_Frame T.me_Frame_look (ok_Frame_look T) rfl (hr.mono (by decide)) T.b_Frame_look (jl_var (i := 2) rfl (by first | exact Or.inl rfl | exact Or.inr (Or.inl rfl) | exact Or.inr (Or.inr rfl))) (ja_c (jc_sh (je_ix (je_var (i := 1) rfl (by first | exact Or.inl rfl | exact Or.inr (Or.inl rfl) | exact Or.inr (Or.inr rfl))) je_int (fun _ _ => rfl))) ja_nil)))) (jg_tup rfl (jgs_cons (jg_name (i := 5) sc.nd rfl (by first | exact Or.inl rfl | exact Or.inr rfl)) (jgs_cons (jg_name (i := 6) sc.nd rfl (by first | exact Or.inl rfl | exact Or.inr rfl)) jgs_nil))))
    (jss_one (js_expr (jc_sh (je_cell (jc_meth T.cl_Frame T.ck_Frame T.me_Frame_put (ok_Frame_put T) rfl (hr.mono (by decide)) T.b_Frame_put (jl_var (i := 2) rfl (by first | exact Or.inl rfl | exact Or.inr (Or.inl rfl) | exact Or.inr (Or.inr rfl))) (ja_c (jc_sh (je_ix (je_var (i := 1) rfl (by first | exact Or.inl rfl | exact Or.inr (Or.inl rfl) | exact Or.inr (Or.inr rfl))) je_int (fun _ _ => rfl))) (ja_c (jc_sh (je_tup (ja_c (jc_sh (je_bin op_mod os_mod (je_bin op_addA os_add (je_var (i := 3) rfl (by first | exact Or.inl rfl | exact Or.inr (Or.inl rfl) | exact Or.inr (Or.inr rfl))) (je_bin op_mulA os_mul je_int (je_var (i := 5) rfl (by first | exact Or.inl rfl | exact Or.inr (Or.inl rfl) | exact Or.inr (Or.inr rfl))))) (je_glob (by rfl) T.g_REST T.v_REST T.r_REST))) (ja_c (jc_sh (je_cell (jc_call (ok_both T) rfl (hr.mono (by decide)) (by rfl) T.g_both T.F_both.kp T.b_both (ja_c (jc_sh (je_var (i := 4) rfl (by first | exact Or.inl rfl | exact Or.inr (Or.inl rfl) | exact Or.inr (Or.inr rfl)))) (ja_c (jc_sh (je_var (i := 6) rfl (by first | exact Or.inl rfl | exact Or.inr (Or.inl rfl) | exact Or.inr (Or.inr rfl)))) ja_nil))))) ja_nil)))) ja_nil)))))))))
    (jss_one (js_if (jt_cmp (op_eqA hr.units) os_eq (je_ix (je_var (i := 1) rfl (by first | exact Or.inl rfl | exact Or.inr (Or.inl rfl) | exact Or.inr (Or.inr rfl))) je_int (fun _ _ => rfl)) je_str (nomark _))
    (jss_one (js_expr (jc_sh (je_cell (jc_meth T.cl_Frame T.ck_Frame T.me_Frame_put (ok_Frame_put T) rfl (hr.mono (by decide)) T.b_Frame_put (jl_var (i := 2) rfl (by first | exact Or.inl rfl | exact Or.inr (Or.inl rfl) | exact Or.inr (Or.inr rfl))) (ja_c (jc_sh (je_ix (je_var (i := 1) rfl (by first | exact Or.inl rfl | exact Or.inr (Or.inl rfl) | exact Or.inr (Or.inr rfl))) je_int (fun _ _ => rfl))) (ja_c (jc_sh (je_tup (ja_c (jc_sh (je_bin op_mod os_mod (je_ix (je_cell (jc_meth T.cl_Frame T.ck_Frame T.me_Frame_look (ok_Frame_look T) rfl (hr.mono (by decide)) T.b_Frame_look (jl_var (i := 2) rfl (by first | exact Or.inl rfl | exact Or.inr (Or.inl rfl) | exact Or.inr (Or.inr rfl))) (ja_c (jc_sh (je_ix (je_var (i := 1) rfl (by first | exact Or.inl rfl | exact Or.inr (Or.inl rfl) | exact Or.inr (Or.inr rfl))) je_int (fun _ _ => rfl))) ja_nil))) je_int (fun _ _ => rfl)) je_int)) (ja_c (jc_sh (je_tup ja_nil)) ja_nil)))) ja_nil)))))))
    (jss_one (js_if (jt_cmp (op_eqA hr.units) os_eq (je_ix (je_var (i := 1) rfl (by first | exact Or.inl rfl | exact Or.inr (Or.inl rfl) | exact Or.inr (Or.inr rfl))) je_int (fun _ _ => rfl)) je_str (nomark _))
    (jss_one (js_app (jl_cell (jc_fld T.cl_Run T.ck_Run T.na_Run_numbers (jl_var (i := 0) rfl (by first | exact Or.inl rfl | exact Or.inr (Or.inl rfl) | exact Or.inr (Or.inr rfl))))) (jc_sh (je_ix (je_cell (jc_meth T.cl_Frame T.ck_Frame T.me_Frame_look (ok_Frame_look T) rfl (hr.mono (by decide)) T.b_Frame_look (jl_var (i := 2) rfl (by first | exact Or.inl rfl | exact Or.inr (Or.inl rfl) | exact Or.inr (Or.inr rfl))) (ja_c (jc_sh (je_ix (je_var (i := 1) rfl (by first | exact Or.inl rfl | exact Or.inr (Or.inl rfl) | exact Or.inr (Or.inr rfl))) je_int (fun _ _ => rfl))) ja_nil))) je_int (fun _ _ => rfl))) (PE0 := (pe_bm PySem.F.plainAttrs_list PySem.F.slot_list_append PySem.F.type_list_append mt_append (jl_cell (jc_fld T.cl_Run T.ck_Run T.na_Run_numbers (jl_var (i := 0) rfl (by first | exact Or.inl rfl | exact Or.inr (Or.inl rfl) | exact Or.inr (Or.inr rfl))))) (pa_cons (jc_sh (je_ix (je_cell (jc_meth T.cl_Frame T.ck_Frame T.me_Frame_look (ok_Frame_look T) rfl (hr.mono (by decide)) T.b_Frame_look (jl_var (i := 2) rfl (by first | exact Or.inl rfl | exact Or.inr (Or.inl rfl) | exact Or.inr (Or.inr rfl))) (ja_c (jc_sh (je_ix (je_var (i := 1) rfl (by first | exact Or.inl rfl | exact Or.inr (Or.inl rfl) | exact Or.inr (Or.inr rfl))) je_int (fun _ _ => rfl))) ja_nil))) je_int (fun _ _ => rfl))) pa_nil)))))
    (jss_one (js_expr (jc_sh (je_cell (jc_meth T.cl_Run T.ck_Run T.me_Run_take_away (ok_Run_take_away T) rfl (hr.mono (by decide)) T.b_Run_take_away (jl_var (i := 0) rfl (by first | exact Or.inl rfl | exact Or.inr (Or.inl rfl) | exact Or.inr (Or.inr rfl))) (ja_c (jc_lo (jl_var (i := 2) rfl (by first | exact Or.inl rfl | exact Or.inr (Or.inl rfl) | exact Or.inr (Or.inr rfl)))) (ja_c (jc_sh (je_var (i := 1) rfl (by first | exact Or.inl rfl | exact Or.inr (Or.inl rfl) | exact Or.inr (Or.inr rfl)))) ja_nil))))))))))))))))))))))
theorem ok_Run_call (T : Tx w K mg) : FnOk P w K mg base CX0 21 T.a_Run_call T.d_Run_call ["self", "word"] (spF K 2 f_Run_call) := by
  have sc := sc_Run_call
  refine fn_J T.F_Run_call sc rfl rfl (by decide) fun cdv A outer s H E hr => ?_
  exact (jss_cons js_bad (jss_cons js_bad (jss_cons js_bad (jss_cons js_bad (jss_cons js_bad (jss_one js_bad))))))
theorem ok_Run_fall (T : Tx w K mg) : FnOk P w K mg base CX0 1 T.a_Run_fall T.d_Run_fall ["self", "fault"] (spF K 2 f_Run_fall) := by
  have sc := sc_Run_fall
  refine fn_J T.F_Run_fall sc rfl rfl (by decide) fun cdv A outer s H E hr => ?_
  exact (jss_cons js_bad (jss_cons js_bad (jss_one js_bad)))
theorem ok_Run_lead (T : Tx w K mg) : FnOk P w K mg base CX0 22 T.a_Run_lead T.d_Run_lead ["self", "word"] (spF K 2 f_Run_lead) := by
  have sc := sc_Run_lead
  refine fn_J T.F_Run_lead sc rfl rfl (by decide) fun cdv A outer s H E hr => ?_
  exact (jss_cons (js_if (jt_cmp (op_eqA hr.units) os_eq (je_ix (je_var (i := 1) rfl (by first | exact Or.inl rfl | exact Or.inr (Or.inl rfl) | exact Or.inr (Or.inr rfl))) je_int (fun _ _ => rfl)) je_str (nomark _))
    (jss_one (js_expr (jc_sh (je_cell (jc_meth T.cl_Run T.ck_Run T.me_Run_come_to (ok_Run_come_to T) rfl (hr.mono (by decide)) T.b_Run_come_to (jl_var (i := 0) rfl (by first | exact Or.inl rfl | exact Or.inr (Or.inl rfl) | exact Or.inr (Or.inr rfl))) (ja_c (jc_sh (je_cell (jc_call (ok_inside T) rfl (hr.mono (by decide)) (by rfl) T.g_inside T.F_inside.kp T.b_inside (ja_c (jc_sh (je_cell (jc_fld T.cl_Run T.ck_Run T.na_Run_whole (jl_var (i := 0) rfl (by first | exact Or.inl rfl | exact Or.inr (Or.inl rfl) | exact Or.inr (Or.inr rfl)))))) (ja_c (jc_sh (je_cell (jc_fld T.cl_Run T.ck_Run T.na_Run_place (jl_var (i := 0) rfl (by first | exact Or.inl rfl | exact Or.inr (Or.inl rfl) | exact Or.inr (Or.inr rfl)))))) (ja_c (jc_sh (je_cell (jc_meth T.cl_Run T.ck_Run T.me_Run_answer (ok_Run_answer T) rfl (hr.mono (by decide)) T.b_Run_answer (jl_var (i := 0) rfl (by first | exact Or.inl rfl | exact Or.inr (Or.inl rfl) | exact Or.inr (Or.inr rfl))) (ja_c (jc_sh (je_callB call_lenA cs_len (by rfl) T.z_len (by decide +kernel) (ja_c (jc_sh (je_ix (je_var (i := 1) rfl (by first | exact Or.inl rfl | exact Or.inr (Or.inl rfl) | exact Or.inr (Or.inr rfl))) je_int (fun _ _ => rfl))) ja_nil))) ja_nil)))) ja_nil)))))) ja_nil))))))
    (jss_one (js_if (jt_cmp (op_eqA hr.units) os_eq (je_ix (je_var (i := 1) rfl (by first | exact Or.inl rfl | exact Or.inr (Or.inl rfl) | exact Or.inr (Or.inr rfl))) je_int (fun _ _ => rfl)) je_str (nomark _))
    (jss_one (js_expr (jc_sh (je_cell (jc_meth T.cl_Run T.ck_Run T.me_Run_come_to (ok_Run_come_to T) rfl (hr.mono (by decide)) T.b_Run_come_to (jl_var (i := 0) rfl (by first | exact Or.inl rfl | exact Or.inr (Or.inl rfl) | exact Or.inr (Or.inr rfl))) (ja_c (jc_sh (je_cell (jc_call (ok_inside T) rfl (hr.mono (by decide)) (by rfl) T.g_inside T.F_inside.kp T.b_inside (ja_c (jc_sh (je_cell (jc_fld T.cl_Run T.ck_Run T.na_Run_whole (jl_var (i := 0) rfl (by first | exact Or.inl rfl | exact Or.inr (Or.inl rfl) | exact Or.inr (Or.inr rfl)))))) (ja_c (jc_sh (je_cell (jc_fld T.cl_Run T.ck_Run T.na_Run_place (jl_var (i := 0) rfl (by first | exact Or.inl rfl | exact Or.inr (Or.inl rfl) | exact Or.inr (Or.inr rfl)))))) (ja_c (jc_sh je_int) ja_nil)))))) ja_nil))))))
    (jss_one (js_if (jt_cmp (op_eqA hr.units) os_eq (je_ix (je_var (i := 1) rfl (by first | exact Or.inl rfl | exact Or.inr (Or.inl rfl) | exact Or.inr (Or.inr rfl))) je_int (fun _ _ => rfl)) je_str (nomark _))
    (jss_one (js_expr (jc_sh (je_cell (jc_meth T.cl_Run T.ck_Run T.me_Run_come_to (ok_Run_come_to T) rfl (hr.mono (by decide)) T.b_Run_come_to (jl_var (i := 0) rfl (by first | exact Or.inl rfl | exact Or.inr (Or.inl rfl) | exact Or.inr (Or.inr rfl))) (ja_c (jc_sh (je_cell (jc_call (ok_out_of T) rfl (hr.mono (by decide)) (by rfl) T.g_out_of T.F_out_of.kp T.b_out_of (ja_c (jc_sh (je_cell (jc_fld T.cl_Run T.ck_Run T.na_Run_whole (jl_var (i := 0) rfl (by first | exact Or.inl rfl | exact Or.inr (Or.inl rfl) | exact Or.inr (Or.inr rfl)))))) (ja_c (jc_sh (je_cell (jc_fld T.cl_Run T.ck_Run T.na_Run_place (jl_var (i := 0) rfl (by first | exact Or.inl rfl | exact Or.inr (Or.inl rfl) | exact Or.inr (Or.inr rfl)))))) (ja_c (jc_sh (je_ix (je_var (i := 1) rfl (by first | exact Or.inl rfl | exact Or.inr (Or.inl rfl) | exact Or.inr (Or.inr rfl))) je_int (fun _ _ => rfl))) ja_nil)))))) ja_nil))))))
    (jss_one (js_if (jt_cmp (op_eqA hr.units) os_eq (je_ix (je_var (i := 1) rfl (by first | exact Or.inl rfl | exact Or.inr (Or.inl rfl) | exact Or.inr (Or.inr rfl))) je_int (fun _ _ => rfl)) je_str (nomark _))
    (jss_one (js_expr (jc_sh (je_cell (jc_meth T.cl_Run T.ck_Run T.me_Run_call (ok_Run_call T) rfl (hr.mono (by decide)) T.b_Run_call (jl_var (i := 0) rfl (by first | exact Or.inl rfl | exact Or.inr (Or.inl rfl) | exact Or.inr (Or.inr rfl))) (ja_c (jc_sh (je_var (i := 1) rfl (by first | exact Or.inl rfl | exact Or.inr (Or.inl rfl) | exact Or.inr (Or.inr rfl)))) ja_nil))))))
    (jss_one (js_if (PW.pt (jw_or (jt_cmp (op_eqA hr.units) os_eq (je_ix (je_var (i := 1) rfl (by first | exact Or.inl rfl | exact Or.inr (Or.inl rfl) | exact Or.inr (Or.inr rfl))) je_int (fun _ _ => rfl)) je_str (nomark _)) (jw_or1 (PW.pt (jw_and (jt_cmp (op_eqA hr.units) os_eq (je_ix (je_var (i := 1) rfl (by first | exact Or.inl rfl | exact Or.inr (Or.inl rfl) | exact Or.inr (Or.inr rfl))) je_int (fun _ _ => rfl)) je_str (nomark _)) (jw_and1 (jt_cmp (op_eqA hr.units) os_eq (je_cell (jc_meth T.cl_Run T.ck_Run T.me_Run_answer (ok_Run_answer T) rfl (hr.mono (by decide)) T.b_Run_answer (jl_var (i := 0) rfl (by first | exact Or.inl rfl | exact Or.inr (Or.inl rfl) | exact Or.inr (Or.inr rfl))) (ja_c (jc_sh je_int) ja_nil))) je_int (nomark _))))))))
    (jss_one (js_expr (jc_sh (je_cell (jc_meth T.cl_Run T.ck_Run T.me_Run_fall (ok_Run_fall T) rfl (hr.mono (by decide)) T.b_Run_fall (jl_var (i := 0) rfl (by first | exact Or.inl rfl | exact Or.inr (Or.inl rfl) | exact Or.inr (Or.inr rfl))) (ja_c (jc_sh (je_ix (je_var (i := 1) rfl (by first | exact Or.inl rfl | exact Or.inr (Or.inl rfl) | exact Or.inr (Or.inr rfl))) je_int (fun _ _ => rfl))) ja_nil))))))
    (jss_one (js_if (jt_cmp (op_eqA hr.units) os_eq (je_ix (je_var (i := 1) rfl (by first | exact Or.inl rfl | exact Or.inr (Or.inl rfl) | exact Or.inr (Or.inr rfl))) je_int (fun _ _ => rfl)) je_str (nomark _))
    (jss_cons (js_expr (jc_sh (je_cell (jc_meth0 T.cl_Run T.ck_Run T.me_Run_go_back (ok_Run_go_back T) (hr.mono (by decide)) T.b_Run_go_back (jl_var (i := 0) rfl (by first | exact Or.inl rfl | exact Or.inr (Or.inl rfl) | exact Or.inr (Or.inr rfl)))))))
    (jss_one (js_if (jt_cmp op_isA os_is (je_cell (jc_fld T.cl_Run T.ck_Run T.na_Run_over_by (jl_var (i := 0) rfl (by first | exact Or.inl rfl | exact Or.inr (Or.inl rfl) | exact Or.inr (Or.inr rfl))))) je_non (nomark _))
    (jss_one (js_expr (jc_sh (je_cell (jc_meth T.cl_Run T.ck_Run T.me_Run_come_to (ok_Run_come_to T) rfl (hr.mono (by decide)) T.b_Run_come_to (jl_var (i := 0) rfl (by first | exact Or.inl rfl | exact Or.inr (Or.inl rfl) | exact Or.inr (Or.inr rfl))) (ja_c (jc_sh (je_cell (jc_fld T.cl_Run T.ck_Run T.na_Run_place (jl_var (i := 0) rfl (by first | exact Or.inl rfl | exact Or.inr (Or.inl rfl) | exact Or.inr (Or.inr rfl)))))) ja_nil))))))
    jss_nil)))
    (jss_one (js_ret (jc_sh je_bl))))))))))))))
    (jss_one (js_ret (jc_sh je_bl))))
theorem ok_Run_step (T : Tx w K mg) : FnOk P w K mg base CX0 23 T.a_Run_step T.d_Run_step ["self"] (spF K 1 f_Run_step) := by
  have sc := sc_Run_step
  refine fn_J T.F_Run_step sc rfl rfl (by decide) fun cdv A outer s H E hr => ?_
  exact (jss_cons (js_set (i := 1) sc.nd rfl (by first | exact Or.inl rfl | exact Or.inr rfl) (jc_sh (je_cell (jc_call (ok_word_at T) rfl (hr.mono (by decide)) (by rfl) T.g_word_at T.F_word_at.kp T.b_word_at (ja_c (jc_sh (je_cell (jc_fld T.cl_Run T.ck_Run T.na_Run_whole (jl_var (i := 0) rfl (by first | exact Or.inl rfl | exact Or.inr (Or.inl rfl) | exact Or.inr (Or.inr rfl)))))) (ja_c (jc_sh (je_cell (jc_fld T.cl_Run T.ck_Run T.na_Run_place (jl_var (i := 0) rfl (by first | exact Or.inl rfl | exact Or.inr (Or.inl rfl) | exact Or.inr (Or.inr rfl)))))) ja_nil))))))
    (jss_cons (js_if (jt_not (jt_val (je_cell (jc_meth T.cl_Run T.ck_Run T.me_Run_lead (ok_Run_lead T) rfl (hr.mono (by decide)) T.b_Run_lead (jl_var (i := 0) rfl (by first | exact Or.inl rfl | exact Or.inr (Or.inl rfl) | exact Or.inr (Or.inr rfl))) (ja_c (jc_sh (je_var (i := 1) rfl (by first | exact Or.inl rfl | exact Or.inr (Or.inl rfl) | exact Or.inr (Or.inr rfl)))) ja_nil)))))
    (jss_cons (js_if (jt_cmp (op_neA hr.units) os_ne (je_ix (je_var (i := 1) rfl (by first | exact Or.inl rfl | exact Or.inr (Or.inl rfl) | exact Or.inr (Or.inr rfl))) je_int (fun _ _ => rfl)) je_str (nomark _))
    (jss_one (js_expr (jc_sh (je_cell (jc_meth T.cl_Run T.ck_Run T.me_Run_change (ok_Run_change T) rfl (hr.mono (by decide)) T.b_Run_change (jl_var (i := 0) rfl (by first | exact Or.inl rfl | exact Or.inr (Or.inl rfl) | exact Or.inr (Or.inr rfl))) (ja_c (jc_sh (je_var (i := 1) rfl (by first | exact Or.inl rfl | exact Or.inr (Or.inl rfl) | exact Or.inr (Or.inr rfl)))) ja_nil))))))
    jss_nil)
    (jss_one (js_expr (jc_sh (je_cell (jc_meth T.cl_Run T.ck_Run T.me_Run_come_to (ok_Run_come_to T) rfl (hr.mono (by decide)) T.b_Run_come_to (jl_var (i := 0) rfl (by first | exact Or.inl rfl | exact Or.inr (Or.inl rfl) | exact Or.inr (Or.inr rfl))) (ja_c (jc_sh (je_cell (jc_call ((ok_G7 T 14)) rfl (hr.mono (by decide)) (by rfl) T.g_behind T.F_behind.kp T.b_behind (ja_c (jc_sh (je_cell (jc_fld T.cl_Run T.ck_Run T.na_Run_whole (jl_var (i := 0) rfl (by first | exact Or.inl rfl | exact Or.inr (Or.inl rfl) | exact Or.inr (Or.inr rfl)))))) (ja_c (jc_sh (je_cell (jc_fld T.cl_Run T.ck_Run T.na_Run_place (jl_var (i := 0) rfl (by first | exact Or.inl rfl | exact Or.inr (Or.inl rfl) | exact Or.inr (Or.inr rfl)))))) ja_nil))))) ja_nil)))))))
    jss_nil)
    (jss_one (js_augF (F := fun i j => i + j) T.cl_Run T.ck_Run T.na_Run_steps (jl_var (i := 0) rfl (by first | exact Or.inl rfl | exact Or.inr (Or.inl rfl) | exact Or.inr (Or.inr rfl))) in_add))))
theorem ok_Run_wants (T : Tx w K mg) : FnOk P w K mg base CX0 5 T.a_Run_wants T.d_Run_wants ["self"] (spF K 1 f_Run_wants) := by
  have sc := sc_Run_wants
  refine fn_J T.F_Run_wants sc rfl rfl (by decide) fun cdv A outer s H E hr => ?_
  exact (jss_cons (js_set (i := 1) sc.nd rfl (by first | exact Or.inl rfl | exact Or.inr rfl) (jc_sh (je_cell (jc_call (ok_word_at T) rfl (hr.mono (by decide)) (by rfl) T.g_word_at T.F_word_at.kp T.b_word_at (ja_c (jc_sh (je_cell (jc_fld T.cl_Run T.ck_Run T.na_Run_whole (jl_var (i := 0) rfl (by first | exact Or.inl rfl | exact Or.inr (Or.inl rfl) | exact Or.inr (Or.inr rfl)))))) (ja_c (jc_sh (je_cell (jc_fld T.cl_Run T.ck_Run T.na_Run_place (jl_var (i := 0) rfl (by first | exact Or.inl rfl | exact Or.inr (Or.inl rfl) | exact Or.inr (Or.inr rfl)))))) ja_nil))))))
    (jss_one (js_ret (jc_sh (je_and (je_cmp op_inA os_in (je_ix (je_var (i := 1) rfl (by first | exact Or.inl rfl | exact Or.inr (Or.inl rfl) | exact Or.inr (Or.inr rfl))) je_int (fun _ _ => rfl)) (je_tup (ja_c (jc_sh je_str) (ja_c (jc_sh je_str) (ja_c (jc_sh je_str) (ja_c (jc_sh je_str) ja_nil))))) (by rfl)) (je_one (je_cmp (op_eqA hr.units) os_eq (je_cell (jc_fld T.cl_Run T.ck_Run T.na_Run_used (jl_var (i := 0) rfl (by first | exact Or.inl rfl | exact Or.inr (Or.inl rfl) | exact Or.inr (Or.inr rfl))))) (je_callB call_lenA cs_len (by rfl) T.z_len (by decide +kernel) (ja_c (jc_sh (je_cell (jc_fld T.cl_Run T.ck_Run T.na_Run_given (jl_var (i := 0) rfl (by first | exact Or.inl rfl | exact Or.inr (Or.inl rfl) | exact Or.inr (Or.inr rfl)))))) ja_nil)) (nomark _))))))))
theorem ok_run (T : Tx w K mg) : FnOk P w K mg base CX0 24 T.a_run T.d_run ["program", "answers", "most"] (spF K 3 f_run) := by
  have sc := sc_run
  refine fn_J T.F_run sc rfl rfl (by decide) fun cdv A outer s H E hr => ?_
  exact (jss_cons (js_set (i := 3) sc.nd rfl (by first | exact Or.inl rfl | exact Or.inr rfl) (jc_lo (jl_make T.cl_Run T.mk_Run (ok_Run___init__ T) rfl (hr.mono (by decide)) (by rfl) T.g_Run T.b_Run___init__ (ja_c (jc_sh (je_var (i := 0) rfl (by first | exact Or.inl rfl | exact Or.inr (Or.inl rfl) | exact Or.inr (Or.inr rfl)))) (ja_c (jc_sh (je_var (i := 1) rfl (by first | exact Or.inl rfl | exact Or.inr (Or.inl rfl) | exact Or.inr (Or.inr rfl)))) ja_nil)))))
    (jss_cons (js_while 1000000 PassesOwn.never (PW.pt (jw_and (jt_cmp op_isA os_is (je_cell (jc_fld T.cl_Run T.ck_Run T.na_Run_over_by (jl_var (i := 3) rfl (by first | exact Or.inl rfl | exact Or.inr (Or.inl rfl) | exact Or.inr (Or.inr rfl))))) je_non (nomark _)) (jw_and (jt_cmp op_ltA os_ord (je_cell (jc_fld T.cl_Run T.ck_Run T.na_Run_steps (jl_var (i := 3) rfl (by first | exact Or.inl rfl | exact Or.inr (Or.inl rfl) | exact Or.inr (Or.inr rfl))))) (je_var (i := 2) rfl (by first | exact Or.inl rfl | exact Or.inr (Or.inl rfl) | exact Or.inr (Or.inr rfl))) (nomark _)) (jw_and1 (jt_not (jt_val (je_cell (jc_meth0 T.cl_Run T.ck_Run T.me_Run_wants (ok_Run_wants T) (hr.mono (by decide)) T.b_Run_wants (jl_var (i := 3) rfl (by first | exact Or.inl rfl | exact Or.inr (Or.inl rfl) | exact Or.inr (Or.inr rfl)))))))))))
    (jss_one (js_expr (jc_sh (je_cell (jc_meth0 T.cl_Run T.ck_Run T.me_Run_step (ok_Run_step T) (hr.mono (by decide)) T.b_Run_step (jl_var (i := 3) rfl (by first | exact Or.inl rfl | exact Or.inr (Or.inl rfl) | exact Or.inr (Or.inr rfl)))))))))
    (jss_cons (js_set (i := 4) sc.nd rfl (by first | exact Or.inl rfl | exact Or.inr rfl) (jc_sh (je_tup (ja_c (jc_sh (je_cell (jc_fld T.cl_Run T.ck_Run T.na_Run_steps (jl_var (i := 3) rfl (by first | exact Or.inl rfl | exact Or.inr (Or.inl rfl) | exact Or.inr (Or.inr rfl)))))) (ja_c (jc_sh (je_tupOf (by rfl) T.z_tuple (by decide +kernel) (jc_lo (jl_cell (jc_fld T.cl_Run T.ck_Run T.na_Run_numbers (jl_var (i := 3) rfl (by first | exact Or.inl rfl | exact Or.inr (Or.inl rfl) | exact Or.inr (Or.inr rfl)))))))) (ja_c (jc_sh (je_tupOf (by rfl) T.z_tuple (by decide +kernel) (jc_lo (jl_cell (jc_fld T.cl_Run T.ck_Run T.na_Run_leavings (jl_var (i := 3) rfl (by first | exact Or.inl rfl | exact Or.inr (Or.inl rfl) | exact Or.inr (Or.inr rfl)))))))) ja_nil))))))
    (jss_cons (js_if (jt_cmp op_isNotA os_isNot (je_cell (jc_fld T.cl_Run T.ck_Run T.na_Run_over_by (jl_var (i := 3) rfl (by first | exact Or.inl rfl | exact Or.inr (Or.inl rfl) | exact Or.inr (Or.inr rfl))))) je_non (nomark _))
    (jss_one (js_ret (jc_sh (je_bin op_addA os_add (je_cell (jc_fld T.cl_Run T.ck_Run T.na_Run_over_by (jl_var (i := 3) rfl (by first | exact Or.inl rfl | exact Or.inr (Or.inl rfl) | exact Or.inr (Or.inr rfl))))) (je_var (i := 4) rfl (by first | exact Or.inl rfl | exact Or.inr (Or.inl rfl) | exact Or.inr (Or.inr rfl)))))))
    jss_nil)
    (jss_one (js_ret (jc_sh (je_bin op_addA os_add (je_bin op_addA os_add (je_tup (ja_c (jc_sh je_str) (ja_c (jc_sh (je_cell (jc_fld T.cl_Run T.ck_Run T.na_Run_place (jl_var (i := 3) rfl (by first | exact Or.inl rfl | exact Or.inr (Or.inl rfl) | exact Or.inr (Or.inr rfl)))))) ja_nil))) (je_var (i := 4) rfl (by first | exact Or.inl rfl | exact Or.inr (Or.inl rfl) | exact Or.inr (Or.inr rfl)))) (je_tup (ja_c (jc_sh (je_cell (jc_meth0 T.cl_Frame T.ck_Frame T.me_Frame_shown (ok_Frame_shown T) (hr.mono (by decide)) T.b_Frame_shown (jl_cell (jc_ix (jc_lo (jl_cell (jc_fld T.cl_Run T.ck_Run T.na_Run_frames (jl_var (i := 3) rfl (by first | exact Or.inl rfl | exact Or.inr (Or.inl rfl) | exact Or.inr (Or.inr rfl)))))) (je_neg je_int) (fun _ _ => rfl)))))) ja_nil))))))))))
theorem ok__law_deck (T : Tx w K mg) : FnOk P w K mg base CX0 1 T.a__law_deck T.d__law_deck ["_law_script"] (spF K 1 f__law_deck) := by
  have sc := sc__law_deck
  refine fn_J T.F__law_deck sc rfl rfl (by decide) fun cdv A outer s H E hr => ?_
  exact (jss_cons (js_set (i := 1) sc.nd rfl (by first | exact Or.inl rfl | exact Or.inr rfl) (jc_sh (je_callTy call_list_of cs_list (by rfl) T.z_list (by decide +kernel) (ja_c (jc_sh (je_slice (je_var (i := 0) rfl (by first | exact Or.inl rfl | exact Or.inr (Or.inl rfl) | exact Or.inr (Or.inr rfl))) jp_none (jp_some je_int))) ja_nil))))
    (jss_one (js_ret (jc_lo (jl_new (jo_cat (jc_sh (je_lst (ja_c (jc_sh je_int) (ja_c (jc_sh (je_bin op_addA os_add je_int (je_bin op_mod os_mod (je_callB (cr_sum rfl) cs_sum (by rfl) T.z_sum (by decide +kernel) (ja_c (jc_sh (je_fr (jo_comp (own := [("_law_k", 2), ("_law_cell", 3)]) (by decide) rfl sc.nd (ji_enum (by rfl) T.z_enumerate (je_var (i := 1) rfl (by first | exact Or.inl rfl | exact Or.inr (Or.inl rfl) | exact Or.inr (Or.inr rfl)))) (blkOk_by (N := N__law_deck) (sc := defScope s__law_deck) (by decide +kernel)) (fun _ _ _ _ _ => (jg_tup rfl (jgs_cons (jg_name (i := 2) sc.nd rfl (by first | exact Or.inl rfl | exact Or.inr rfl)) (jgs_cons (jg_name (i := 3) sc.nd rfl (by first | exact Or.inl rfl | exact Or.inr rfl)) jgs_nil)))) (fun _ _ _ _ _ => jts_nil) (fun _ _ _ _ _ => (je_bin op_mulA os_mul (je_bin op_mod os_mod (je_var (i := 3) rfl (by first | exact Or.inl rfl | exact Or.inr (Or.inl rfl) | exact Or.inr (Or.inr rfl))) je_int) (je_bin op_addA os_add (je_var (i := 2) rfl (by first | exact Or.inl rfl | exact Or.inr (Or.inl rfl) | exact Or.inr (Or.inr rfl))) je_int)))))) ja_nil)) je_int))) ja_nil)))) (jc_sh (je_rev (je_var (i := 1) rfl (by first | exact Or.inl rfl | exact Or.inr (Or.inl rfl) | exact Or.inr (Or.inr rfl)))))))))))
theorem ok__law_draw (T : Tx w K mg) : FnOk P w K mg base CX0 1 T.a__law_draw T.d__law_draw ["_law_deck_here", "_law_most"] (spF K 2 f__law_draw) := by
  have sc := sc__law_draw
  refine fn_J T.F__law_draw sc rfl rfl (by decide) fun cdv A outer s H E hr => ?_
  exact (jss_cons (js_setIx (jl_var (i := 0) rfl (by first | exact Or.inl rfl | exact Or.inr (Or.inl rfl) | exact Or.inr (Or.inr rfl))) je_int (jc_sh (je_bin op_addA os_add (je_cell (jc_ix (jc_lo (jl_var (i := 0) rfl (by first | exact Or.inl rfl | exact Or.inr (Or.inl rfl) | exact Or.inr (Or.inr rfl)))) je_int (fun _ _ => rfl))) je_int)))
    (jss_cons (js_set (i := 2) sc.nd rfl (by first | exact Or.inl rfl | exact Or.inr rfl) (jc_sh (je_bin op_addA os_add (je_cell (jc_ix (jc_lo (jl_var (i := 0) rfl (by first | exact Or.inl rfl | exact Or.inr (Or.inl rfl) | exact Or.inr (Or.inr rfl)))) je_int (fun _ _ => rfl))) (je_bin op_mulA os_mul je_int (je_cell (jc_ix (jc_lo (jl_var (i := 0) rfl (by first | exact Or.inl rfl | exact Or.inr (Or.inl rfl) | exact Or.inr (Or.inr rfl)))) je_int (fun _ _ => rfl)))))))
    (jss_cons (js_if (jt_cmp op_gtA os_ord (je_callBC call_lenA cs_len (by rfl) T.z_len (by decide +kernel) (ja_c (jc_lo (jl_var (i := 0) rfl (by first | exact Or.inl rfl | exact Or.inr (Or.inl rfl) | exact Or.inr (Or.inr rfl)))) ja_nil)) je_int (nomark _))
    (jss_cons (js_set (i := 2) sc.nd rfl (by first | exact Or.inl rfl | exact Or.inr rfl) (jc_sh (je_cell (jc_pop0 (PE0 := (pe_bm0 PySem.F.plainAttrs_list PySem.F.slot_list_pop PySem.F.type_list_pop mt_pop (jl_var (i := 0) rfl (by first | exact Or.inl rfl | exact Or.inr (Or.inl rfl) | exact Or.inr (Or.inr rfl)))))))))
    (jss_one (js_if (jt_cmp op_geA os_ord (je_var (i := 2) rfl (by first | exact Or.inl rfl | exact Or.inr (Or.inl rfl) | exact Or.inr (Or.inr rfl))) (je_bin op_pow os_pow je_int je_int) (nomark _))
    (jss_cons (js_app (jl_var (i := 0) rfl (by first | exact Or.inl rfl | exact Or.inr (Or.inl rfl) | exact Or.inr (Or.inr rfl))) (jc_sh (je_bin op_fdivW os_div (je_var (i := 2) rfl (by first | exact Or.inl rfl | exact Or.inr (Or.inl rfl) | exact Or.inr (Or.inr rfl))) (je_var (i := 1) rfl (by first | exact Or.inl rfl | exact Or.inr (Or.inl rfl) | exact Or.inr (Or.inr rfl))))) (PE0 := (pe_bm PySem.F.plainAttrs_list PySem.F.slot_list_append PySem.F.type_list_append mt_append (jl_var (i := 0) rfl (by first | exact Or.inl rfl | exact Or.inr (Or.inl rfl) | exact Or.inr (Or.inr rfl))) (pa_cons (jc_sh (je_bin op_fdivW os_div (je_var (i := 2) rfl (by first | exact Or.inl rfl | exact Or.inr (Or.inl rfl) | exact Or.inr (Or.inr rfl))) (je_var (i := 1) rfl (by first | exact Or.inl rfl | exact Or.inr (Or.inl rfl) | exact Or.inr (Or.inr rfl))))) pa_nil))))
    (jss_one (js_ret (jc_sh (je_bin op_mod os_mod (je_var (i := 2) rfl (by first | exact Or.inl rfl | exact Or.inr (Or.inl rfl) | exact Or.inr (Or.inr rfl))) (je_var (i := 1) rfl (by first | exact Or.inl rfl | exact Or.inr (Or.inl rfl) | exact Or.inr (Or.inr rfl))))))))
    jss_nil)))
    jss_nil)
    (jss_cons (js_set (i := 3) sc.nd rfl (by first | exact Or.inl rfl | exact Or.inr rfl) (jc_sh (je_bin op_mod os_mod (je_bin op_mulA os_mul (je_bin op_addA os_add (je_bin op_mod os_mod (je_var (i := 2) rfl (by first | exact Or.inl rfl | exact Or.inr (Or.inl rfl) | exact Or.inr (Or.inr rfl))) je_int) (je_bin op_mulA os_mul je_int (je_cell (jc_ix (jc_lo (jl_var (i := 0) rfl (by first | exact Or.inl rfl | exact Or.inr (Or.inl rfl) | exact Or.inr (Or.inr rfl)))) je_int (fun _ _ => rfl))))) je_int) je_int)))
    (jss_cons (js_set (i := 3) sc.nd rfl (by first | exact Or.inl rfl | exact Or.inr rfl) (jc_sh (je_bin op_mod os_mod (je_bin op_addA os_add (je_bin op_addA os_add (je_bin op_mulA os_mul (je_var (i := 3) rfl (by first | exact Or.inl rfl | exact Or.inr (Or.inl rfl) | exact Or.inr (Or.inr rfl))) (je_var (i := 3) rfl (by first | exact Or.inl rfl | exact Or.inr (Or.inl rfl) | exact Or.inr (Or.inr rfl)))) (je_bin op_mulA os_mul je_int (je_var (i := 3) rfl (by first | exact Or.inl rfl | exact Or.inr (Or.inl rfl) | exact Or.inr (Or.inr rfl))))) (je_cell (jc_ix (jc_lo (jl_var (i := 0) rfl (by first | exact Or.inl rfl | exact Or.inr (Or.inl rfl) | exact Or.inr (Or.inr rfl)))) je_int (fun _ _ => rfl)))) je_int)))
    (jss_one (js_ret (jc_sh (je_bin op_mod os_mod (je_bin op_fdivW os_div (je_var (i := 3) rfl (by first | exact Or.inl rfl | exact Or.inr (Or.inl rfl) | exact Or.inr (Or.inr rfl))) je_int) (je_var (i := 1) rfl (by first | exact Or.inl rfl | exact Or.inr (Or.inl rfl) | exact Or.inr (Or.inr rfl))))))))))))
theorem ok__law_some (T : Tx w K mg) : FnOk P w K mg base CX0 2 T.a__law_some T.d__law_some ["_law_deck_here", "_law_few", "_law_most"] (spF K 3 f__law_some) := by
  have sc := sc__law_some
  refine fn_J T.F__law_some sc rfl rfl (by decide) fun cdv A outer s H E hr => ?_
  exact (jss_one (js_ret (jc_sh (je_ix (je_lst (ja_c (jc_sh (je_cell (jc_call (ok__law_draw T) rfl (hr.mono (by decide)) (by rfl) T.g__law_draw T.F__law_draw.kp T.b__law_draw (ja_c (jc_lo (jl_var (i := 0) rfl (by first | exact Or.inl rfl | exact Or.inr (Or.inl rfl) | exact Or.inr (Or.inr rfl)))) (ja_c (jc_sh (je_bin op_addA os_add (je_var (i := 1) rfl (by first | exact Or.inl rfl | exact Or.inr (Or.inl rfl) | exact Or.inr (Or.inr rfl))) je_int)) ja_nil))))) (ja_c (jc_sh (je_var (i := 2) rfl (by first | exact Or.inl rfl | exact Or.inr (Or.inl rfl) | exact Or.inr (Or.inr rfl)))) ja_nil))) (je_callTy call_int1 cs_int (by rfl) T.z_int (by decide +kernel) (ja_c (jc_sh (je_cmp (op_eqA hr.units) os_eq (je_cell (jc_call (ok__law_draw T) rfl (hr.mono (by decide)) (by rfl) T.g__law_draw T.F__law_draw.kp T.b__law_draw (ja_c (jc_lo (jl_var (i := 0) rfl (by first | exact Or.inl rfl | exact Or.inr (Or.inl rfl) | exact Or.inr (Or.inr rfl)))) (ja_c (jc_sh je_int) ja_nil)))) je_int (nomark _))) ja_nil)) (fun _ _ => rfl)))))
theorem ok__law_names (T : Tx w K mg) : FnOk P w K mg base CX0 2 T.a__law_names T.d__law_names ["_law_deck_here", "_law_many"] (spF K 2 f__law_names) := by
  have sc := sc__law_names
  refine fn_J T.F__law_names sc rfl rfl (by decide) fun cdv A outer s H E hr => ?_
  exact (jss_cons (js_set (i := 2) sc.nd rfl (by first | exact Or.inl rfl | exact Or.inr rfl) (jc_sh je_str))
    (jss_cons (js_lc (mc := (fun m => mLo (mNew m))) (i := 3) (own := [("_law_k", 7)]) (by decide) rfl sc.nd rfl rfl mc_new (sw_true rfl rfl rfl (by decide +kernel)) (ji_range1 (by rfl) T.z_range (je_bin op_addA os_add je_int (je_cell (jc_call (ok__law_draw T) rfl (hr.mono (by decide)) (by rfl) T.g__law_draw T.F__law_draw.kp T.b__law_draw (ja_c (jc_lo (jl_var (i := 0) rfl (by first | exact Or.inl rfl | exact Or.inr (Or.inl rfl) | exact Or.inr (Or.inr rfl)))) (ja_c (jc_sh je_int) ja_nil)))))) (blkOk_by (N := N__law_names) (sc := defScope s__law_names) (by decide +kernel)) (fun _ _ _ _ _ => (jg_name (i := 7) sc.nd rfl (by first | exact Or.inl rfl | exact Or.inr rfl))) (fun _ _ _ _ _ => jts_nil) (fun _ _ _ _ _ => (je_ix (je_var (i := 2) rfl (by first | exact Or.inl rfl | exact Or.inr (Or.inl rfl) | exact Or.inr (Or.inr rfl))) (je_cell (jc_call (ok__law_draw T) rfl (hr.mono (by decide)) (by rfl) T.g__law_draw T.F__law_draw.kp T.b__law_draw (ja_c (jc_lo (jl_var (i := 0) rfl (by first | exact Or.inl rfl | exact Or.inr (Or.inl rfl) | exact Or.inr (Or.inr rfl)))) (ja_c (jc_sh je_int) ja_nil)))) (fun _ _ => rfl))))
    (jss_cons (js_set (i := 4) sc.nd rfl (by first | exact Or.inl rfl | exact Or.inr rfl) (jc_sh (je_cell (jc_call (ok__law_draw T) rfl (hr.mono (by decide)) (by rfl) T.g__law_draw T.F__law_draw.kp T.b__law_draw (ja_c (jc_lo (jl_var (i := 0) rfl (by first | exact Or.inl rfl | exact Or.inr (Or.inl rfl) | exact Or.inr (Or.inr rfl)))) (ja_c (jc_sh (je_callBC call_lenA cs_len (by rfl) T.z_len (by decide +kernel) (ja_c (jc_lo (jl_var (i := 3) rfl (by first | exact Or.inl rfl | exact Or.inr (Or.inl rfl) | exact Or.inr (Or.inr rfl)))) ja_nil))) ja_nil))))))
    (jss_cons (js_set (i := 5) sc.nd rfl (by first | exact Or.inl rfl | exact Or.inr rfl) (jc_sh (je_cell (jc_call (ok__law_draw T) rfl (hr.mono (by decide)) (by rfl) T.g__law_draw T.F__law_draw.kp T.b__law_draw (ja_c (jc_lo (jl_var (i := 0) rfl (by first | exact Or.inl rfl | exact Or.inr (Or.inl rfl) | exact Or.inr (Or.inr rfl)))) (ja_c (jc_sh je_int) ja_nil))))))
    (jss_cons (js_set (i := 6) sc.nd rfl (by first | exact Or.inl rfl | exact Or.inr rfl) (jc_lo (jl_new (jo_lst ja_nil))))
    (jss_cons (js_for PassesOwn.never rfl (ji_range1 (by rfl) T.z_range (je_var (i := 1) rfl (by first | exact Or.inl rfl | exact Or.inr (Or.inl rfl) | exact Or.inr (Or.inr rfl)))) (jg_name (i := 7) sc.nd rfl (by first | exact Or.inl rfl | exact Or.inr rfl))
    (jss_cons (js_setIx (jl_var (i := 3) rfl (by first | exact Or.inl rfl | exact Or.inr (Or.inl rfl) | exact Or.inr (Or.inr rfl))) (je_var (i := 4) rfl (by first | exact Or.inl rfl | exact Or.inr (Or.inl rfl) | exact Or.inr (Or.inr rfl))) (jc_sh (je_ix (je_var (i := 2) rfl (by first | exact Or.inl rfl | exact Or.inr (Or.inl rfl) | exact Or.inr (Or.inr rfl))) (je_bin op_mod os_mod (je_bin op_addA os_add (je_var (i := 5) rfl (by first | exact Or.inl rfl | exact Or.inr (Or.inl rfl) | exact Or.inr (Or.inr rfl))) (je_var (i := 7) rfl (by first | exact Or.inl rfl | exact Or.inr (Or.inl rfl) | exact Or.inr (Or.inr rfl)))) je_int) (fun _ _ => rfl))))
    (jss_one (js_app (jl_var (i := 6) rfl (by first | exact Or.inl rfl | exact Or.inr (Or.inl rfl) | exact Or.inr (Or.inr rfl))) (jc_sh (je_bin op_addA os_add (je_bin op_addA os_add (je_m1C PySem.F.slot_str_join PySem.F.type_str_join mt_join ms_join je_str (jc_lo (jl_var (i := 3) rfl (by first | exact Or.inl rfl | exact Or.inr (Or.inl rfl) | exact Or.inr (Or.inr rfl))))) je_str) (je_bin op_mulA os_mul je_str (je_bin op_mod os_mod (je_var (i := 7) rfl (by first | exact Or.inl rfl | exact Or.inr (Or.inl rfl) | exact Or.inr (Or.inr rfl))) je_int)))) (PE0 := (pe_bm PySem.F.plainAttrs_list PySem.F.slot_list_append PySem.F.type_list_append mt_append (jl_var (i := 6) rfl (by first | exact Or.inl rfl | exact Or.inr (Or.inl rfl) | exact Or.inr (Or.inr rfl))) (pa_cons (jc_sh (je_bin op_addA os_add (je_bin op_addA os_add (je_m1C PySem.F.slot_str_join PySem.F.type_str_join mt_join ms_join je_str (jc_lo (jl_var (i := 3) rfl (by first | exact Or.inl rfl | exact Or.inr (Or.inl rfl) | exact Or.inr (Or.inr rfl))))) je_str) (je_bin op_mulA os_mul je_str (je_bin op_mod os_mod (je_var (i := 7) rfl (by first | exact Or.inl rfl | exact Or.inr (Or.inl rfl) | exact Or.inr (Or.inr rfl))) je_int)))) pa_nil)))))))
    (jss_cons (js_if (jt_cmp (op_eqA hr.units) os_eq (je_cell (jc_call (ok__law_draw T) rfl (hr.mono (by decide)) (by rfl) T.g__law_draw T.F__law_draw.kp T.b__law_draw (ja_c (jc_lo (jl_var (i := 0) rfl (by first | exact Or.inl rfl | exact Or.inr (Or.inl rfl) | exact Or.inr (Or.inr rfl)))) (ja_c (jc_sh je_int) ja_nil)))) je_int (nomark _))
    (jss_one (js_setIx (jl_var (i := 6) rfl (by first | exact Or.inl rfl | exact Or.inr (Or.inl rfl) | exact Or.inr (Or.inr rfl))) (je_cell (jc_call (ok__law_draw T) rfl (hr.mono (by decide)) (by rfl) T.g__law_draw T.F__law_draw.kp T.b__law_draw (ja_c (jc_lo (jl_var (i := 0) rfl (by first | exact Or.inl rfl | exact Or.inr (Or.inl rfl) | exact Or.inr (Or.inr rfl)))) (ja_c (jc_sh (je_var (i := 1) rfl (by first | exact Or.inl rfl | exact Or.inr (Or.inl rfl) | exact Or.inr (Or.inr rfl)))) ja_nil)))) (jc_sh (je_ix (je_lst (ja_c (jc_sh je_str) (ja_c (jc_sh je_str) (ja_c (jc_sh je_str) (ja_c (jc_sh je_str) (ja_c (jc_sh je_str) (ja_c (jc_sh je_str) (ja_c (jc_sh je_str) (ja_c (jc_sh je_str) ja_nil))))))))) (je_bin op_mod os_mod (je_var (i := 5) rfl (by first | exact Or.inl rfl | exact Or.inr (Or.inl rfl) | exact Or.inr (Or.inr rfl))) je_int) (fun _ _ => rfl)))))
    jss_nil)
    (jss_one (js_ret (jc_sh (je_seal (jl_var (i := 6) rfl (by first | exact Or.inl rfl | exact Or.inr (Or.inl rfl) | exact Or.inr (Or.inr rfl))))))))))))))
theorem ok__law_boxes (T : Tx w K mg) : FnOk P w K mg base CX0 3 T.a__law_boxes T.d__law_boxes ["_law_deck_here", "_law_names_here"] (spF K 2 f__law_boxes) := by
  have sc := sc__law_boxes
  refine fn_J T.F__law_boxes sc rfl rfl (by decide) fun cdv A outer s H E hr => ?_
  exact (jss_cons (js_set (i := 2) sc.nd rfl (by first | exact Or.inl rfl | exact Or.inr rfl) (jc_lo (jl_new (jo_lst (ja_c (jc_sh (je_ix (je_var (i := 1) rfl (by first | exact Or.inl rfl | exact Or.inr (Or.inl rfl) | exact Or.inr (Or.inr rfl))) je_int (fun _ _ => rfl))) (ja_c (jc_sh (je_ix (je_var (i := 1) rfl (by first | exact Or.inl rfl | exact Or.inr (Or.inl rfl) | exact Or.inr (Or.inr rfl))) je_int (fun _ _ => rfl))) (ja_c (jc_sh (je_ix (je_var (i := 1) rfl (by first | exact Or.inl rfl | exact Or.inr (Or.inl rfl) | exact Or.inr (Or.inr rfl))) je_int (fun _ _ => rfl))) (ja_c (jc_sh (je_bin op_addA os_add (je_bin op_addA os_add (je_ix (je_var (i := 1) rfl (by first | exact Or.inl rfl | exact Or.inr (Or.inl rfl) | exact Or.inr (Or.inr rfl))) je_int (fun _ _ => rfl)) je_str) (je_ix (je_var (i := 1) rfl (by first | exact Or.inl rfl | exact Or.inr (Or.inl rfl) | exact Or.inr (Or.inr rfl))) je_int (fun _ _ => rfl)))) (ja_c (jc_sh (je_bin op_addA os_add (je_bin op_addA os_add (je_ix (je_var (i := 1) rfl (by first | exact Or.inl rfl | exact Or.inr (Or.inl rfl) | exact Or.inr (Or.inr rfl))) je_int (fun _ _ => rfl)) je_str) (je_ix (je_var (i := 1) rfl (by first | exact Or.inl rfl | exact Or.inr (Or.inl rfl) | exact Or.inr (Or.inr rfl))) je_int (fun _ _ => rfl)))) (ja_c (jc_sh (je_ix (je_var (i := 1) rfl (by first | exact Or.inl rfl | exact Or.inr (Or.inl rfl) | exact Or.inr (Or.inr rfl))) je_int (fun _ _ => rfl))) ja_nil))))))))))
    (jss_cons (js_set (i := 2) sc.nd rfl (by first | exact Or.inl rfl | exact Or.inr rfl) (jc_lo (jl_new (jo_cat (jc_lo (jl_var (i := 2) rfl (by first | exact Or.inl rfl | exact Or.inr (Or.inl rfl) | exact Or.inr (Or.inr rfl)))) (jc_sh (je_lst (ja_c (jc_sh (je_bin op_addA os_add (je_bin op_addA os_add (je_ix (je_var (i := 1) rfl (by first | exact Or.inl rfl | exact Or.inr (Or.inl rfl) | exact Or.inr (Or.inr rfl))) je_int (fun _ _ => rfl)) je_str) (je_ix (je_var (i := 1) rfl (by first | exact Or.inl rfl | exact Or.inr (Or.inl rfl) | exact Or.inr (Or.inr rfl))) je_int (fun _ _ => rfl)))) (ja_c (jc_sh (je_ix (je_var (i := 1) rfl (by first | exact Or.inl rfl | exact Or.inr (Or.inl rfl) | exact Or.inr (Or.inr rfl))) je_int (fun _ _ => rfl))) (ja_c (jc_sh (je_ix (je_var (i := 1) rfl (by first | exact Or.inl rfl | exact Or.inr (Or.inl rfl) | exact Or.inr (Or.inr rfl))) je_int (fun _ _ => rfl))) ja_nil)))))))))
    (jss_cons (js_if (jt_cmp (op_eqA hr.units) os_eq (je_cell (jc_call (ok__law_draw T) rfl (hr.mono (by decide)) (by rfl) T.g__law_draw T.F__law_draw.kp T.b__law_draw (ja_c (jc_lo (jl_var (i := 0) rfl (by first | exact Or.inl rfl | exact Or.inr (Or.inl rfl) | exact Or.inr (Or.inr rfl)))) (ja_c (jc_sh je_int) ja_nil)))) je_int (nomark _))
    (jss_one (js_setIx (jl_var (i := 2) rfl (by first | exact Or.inl rfl | exact Or.inr (Or.inl rfl) | exact Or.inr (Or.inr rfl))) je_int (jc_sh (je_bin op_addA os_add (je_bin op_addA os_add (je_ix (je_var (i := 1) rfl (by first | exact Or.inl rfl | exact Or.inr (Or.inl rfl) | exact Or.inr (Or.inr rfl))) je_int (fun _ _ => rfl)) je_str) (je_ix (je_var (i := 1) rfl (by first | exact Or.inl rfl | exact Or.inr (Or.inl rfl) | exact Or.inr (Or.inr rfl))) je_int (fun _ _ => rfl))))))
    jss_nil)
    (jss_one (js_ret (jc_sh (je_slice (je_sliceC (jc_lo (jl_var (i := 2) rfl (by first | exact Or.inl rfl | exact Or.inr (Or.inl rfl) | exact Or.inr (Or.inr rfl)))) (jp_some (je_cell (jc_call (ok__law_draw T) rfl (hr.mono (by decide)) (by rfl) T.g__law_draw T.F__law_draw.kp T.b__law_draw (ja_c (jc_lo (jl_var (i := 0) rfl (by first | exact Or.inl rfl | exact Or.inr (Or.inl rfl) | exact Or.inr (Or.inr rfl)))) (ja_c (jc_sh je_int) ja_nil))))) jp_none) jp_none (jp_some (je_bin op_addA os_add je_int (je_cell (jc_call (ok__law_some T) rfl (hr.mono (by decide)) (by rfl) T.g__law_some T.F__law_some.kp T.b__law_some (ja_c (jc_lo (jl_var (i := 0) rfl (by first | exact Or.inl rfl | exact Or.inr (Or.inl rfl) | exact Or.inr (Or.inr rfl)))) (ja_c (jc_sh je_int) (ja_c (jc_sh je_int) ja_nil))))))))))))))
theorem ok__law_one_of (T : Tx w K mg) : FnOk P w K mg base CX0 2 T.a__law_one_of T.d__law_one_of ["_law_deck_here", "_law_some_here"] (spF K 2 f__law_one_of) := by
  have sc := sc__law_one_of
  refine fn_J T.F__law_one_of sc rfl rfl (by decide) fun cdv A outer s H E hr => ?_
  exact (jss_one (js_ret (jc_sh (je_ix (je_var (i := 1) rfl (by first | exact Or.inl rfl | exact Or.inr (Or.inl rfl) | exact Or.inr (Or.inr rfl))) (je_cell (jc_call (ok__law_draw T) rfl (hr.mono (by decide)) (by rfl) T.g__law_draw T.F__law_draw.kp T.b__law_draw (ja_c (jc_lo (jl_var (i := 0) rfl (by first | exact Or.inl rfl | exact Or.inr (Or.inl rfl) | exact Or.inr (Or.inr rfl)))) (ja_c (jc_sh (je_callB call_lenA cs_len (by rfl) T.z_len (by decide +kernel) (ja_c (jc_sh (je_var (i := 1) rfl (by first | exact Or.inl rfl | exact Or.inr (Or.inl rfl) | exact Or.inr (Or.inr rfl)))) ja_nil))) ja_nil)))) (fun _ _ => rfl)))))
theorem ok__law_picked (T : Tx w K mg) : FnOk P w K mg base CX0 2 T.a__law_picked T.d__law_picked ["_law_deck_here", "_law_some_here", "_law_many"] (spF K 3 f__law_picked) := by
  have sc := sc__law_picked
  refine fn_J T.F__law_picked sc rfl rfl (by decide) fun cdv A outer s H E hr => ?_
  exact (jss_cons (js_set (i := 3) sc.nd rfl (by first | exact Or.inl rfl | exact Or.inr rfl) (jc_lo (jl_new (jo_listOf (by rfl) T.z_list (by decide +kernel) (jc_sh (je_var (i := 1) rfl (by first | exact Or.inl rfl | exact Or.inr (Or.inl rfl) | exact Or.inr (Or.inr rfl))))))))
    (jss_cons (js_set (i := 4) sc.nd rfl (by first | exact Or.inl rfl | exact Or.inr rfl) (jc_lo (jl_new (jo_lst ja_nil))))
    (jss_cons (js_for PassesOwn.never rfl (ji_range1 (by rfl) T.z_range (je_callB (call_min2 rfl) (cs_II (f := fun i j => if j < i then j else i)) (by rfl) T.z_min (by decide +kernel) (ja_c (jc_sh (je_var (i := 2) rfl (by first | exact Or.inl rfl | exact Or.inr (Or.inl rfl) | exact Or.inr (Or.inr rfl)))) (ja_c (jc_sh (je_callBC call_lenA cs_len (by rfl) T.z_len (by decide +kernel) (ja_c (jc_lo (jl_var (i := 3) rfl (by first | exact Or.inl rfl | exact Or.inr (Or.inl rfl) | exact Or.inr (Or.inr rfl)))) ja_nil))) ja_nil)))) (jg_name (i := 5) sc.nd rfl (by first | exact Or.inl rfl | exact Or.inr rfl))
    (jss_one (js_app (jl_var (i := 4) rfl (by first | exact Or.inl rfl | exact Or.inr (Or.inl rfl) | exact Or.inr (Or.inr rfl))) (jc_sh (je_cell (jc_popAt (jl_var (i := 3) rfl (by first | exact Or.inl rfl | exact Or.inr (Or.inl rfl) | exact Or.inr (Or.inr rfl))) (je_cell (jc_call (ok__law_draw T) rfl (hr.mono (by decide)) (by rfl) T.g__law_draw T.F__law_draw.kp T.b__law_draw (ja_c (jc_lo (jl_var (i := 0) rfl (by first | exact Or.inl rfl | exact Or.inr (Or.inl rfl) | exact Or.inr (Or.inr rfl)))) (ja_c (jc_sh (je_callBC call_lenA cs_len (by rfl) T.z_len (by decide +kernel) (ja_c (jc_lo (jl_var (i := 3) rfl (by first | exact Or.inl rfl | exact Or.inr (Or.inl rfl) | exact Or.inr (Or.inr rfl)))) ja_nil))) ja_nil)))) (PE0 := (pe_bm PySem.F.plainAttrs_list PySem.F.slot_list_pop PySem.F.type_list_pop mt_popAt (jl_var (i := 3) rfl (by first | exact Or.inl rfl | exact Or.inr (Or.inl rfl) | exact Or.inr (Or.inr rfl))) (pa_cons (je_cell (jc_call (ok__law_draw T) rfl (hr.mono (by decide)) (by rfl) T.g__law_draw T.F__law_draw.kp T.b__law_draw (ja_c (jc_lo (jl_var (i := 0) rfl (by first | exact Or.inl rfl | exact Or.inr (Or.inl rfl) | exact Or.inr (Or.inr rfl)))) (ja_c (jc_sh (je_callBC call_lenA cs_len (by rfl) T.z_len (by decide +kernel) (ja_c (jc_lo (jl_var (i := 3) rfl (by first | exact Or.inl rfl | exact Or.inr (Or.inl rfl) | exact Or.inr (Or.inr rfl)))) ja_nil))) ja_nil)))) pa_nil)))))) (PE0 := (pe_bm PySem.F.plainAttrs_list PySem.F.slot_list_append PySem.F.type_list_append mt_append (jl_var (i := 4) rfl (by first | exact Or.inl rfl | exact Or.inr (Or.inl rfl) | exact Or.inr (Or.inr rfl))) (pa_cons (jc_sh (je_cell (jc_popAt (jl_var (i := 3) rfl (by first | exact Or.inl rfl | exact Or.inr (Or.inl rfl) | exact Or.inr (Or.inr rfl))) (je_cell (jc_call (ok__law_draw T) rfl (hr.mono (by decide)) (by rfl) T.g__law_draw T.F__law_draw.kp T.b__law_draw (ja_c (jc_lo (jl_var (i := 0) rfl (by first | exact Or.inl rfl | exact Or.inr (Or.inl rfl) | exact Or.inr (Or.inr rfl)))) (ja_c (jc_sh (je_callBC call_lenA cs_len (by rfl) T.z_len (by decide +kernel) (ja_c (jc_lo (jl_var (i := 3) rfl (by first | exact Or.inl rfl | exact Or.inr (Or.inl rfl) | exact Or.inr (Or.inr rfl)))) ja_nil))) ja_nil)))) (PE0 := (pe_bm PySem.F.plainAttrs_list PySem.F.slot_list_pop PySem.F.type_list_pop mt_popAt (jl_var (i := 3) rfl (by first | exact Or.inl rfl | exact Or.inr (Or.inl rfl) | exact Or.inr (Or.inr rfl))) (pa_cons (je_cell (jc_call (ok__law_draw T) rfl (hr.mono (by decide)) (by rfl) T.g__law_draw T.F__law_draw.kp T.b__law_draw (ja_c (jc_lo (jl_var (i := 0) rfl (by first | exact Or.inl rfl | exact Or.inr (Or.inl rfl) | exact Or.inr (Or.inr rfl)))) (ja_c (jc_sh (je_callBC call_lenA cs_len (by rfl) T.z_len (by decide +kernel) (ja_c (jc_lo (jl_var (i := 3) rfl (by first | exact Or.inl rfl | exact Or.inr (Or.inl rfl) | exact Or.inr (Or.inr rfl)))) ja_nil))) ja_nil)))) pa_nil)))))) pa_nil))))))
    (jss_one (js_ret (jc_sh (je_tupOf (by rfl) T.z_tuple (by decide +kernel) (jc_lo (jl_var (i := 4) rfl (by first | exact Or.inl rfl | exact Or.inr (Or.inl rfl) | exact Or.inr (Or.inr rfl)))))))))))
theorem ok__law_plain (T : Tx w K mg) : FnOk P w K mg base CX0 3 T.a__law_plain T.d__law_plain ["_law_deck_here", "_law_case"] (spF K 2 f__law_plain) := by
  have sc := sc__law_plain
  refine fn_J T.F__law_plain sc rfl rfl (by decide) fun cdv A outer s H E hr => ?_
  exact (jss_cons (js_set (i := 2) sc.nd rfl (by first | exact Or.inl rfl | exact Or.inr rfl) (jc_sh (je_cell (jc_call (ok__law_draw T) rfl (hr.mono (by decide)) (by rfl) T.g__law_draw T.F__law_draw.kp T.b__law_draw (ja_c (jc_lo (jl_var (i := 0) rfl (by first | exact Or.inl rfl | exact Or.inr (Or.inl rfl) | exact Or.inr (Or.inr rfl)))) (ja_c (jc_sh je_int) ja_nil))))))
    (jss_cons (js_asg (jc_sh (je_fr (jo_comp (own := [("_law_k", 6)]) (by decide) rfl sc.nd (ji_range1 (by rfl) T.z_range je_int) (blkOk_by (N := N__law_plain) (sc := defScope s__law_plain) (by decide +kernel)) (fun _ _ _ _ _ => (jg_name (i := 6) sc.nd rfl (by first | exact Or.inl rfl | exact Or.inr rfl))) (fun _ _ _ _ _ => jts_nil) (fun _ _ _ _ _ => (je_cell (jc_call (ok__law_one_of T) rfl (hr.mono (by decide)) (by rfl) T.g__law_one_of T.F__law_one_of.kp T.b__law_one_of (ja_c (jc_lo (jl_var (i := 0) rfl (by first | exact Or.inl rfl | exact Or.inr (Or.inl rfl) | exact Or.inr (Or.inr rfl)))) (ja_c (jc_sh (je_cell (jc_dget hr.units (jl_var (i := 1) rfl (by first | exact Or.inl rfl | exact Or.inr (Or.inl rfl) | exact Or.inr (Or.inr rfl))) je_str (fun _ _ => rfl)))) ja_nil)))))))) (jg_lst rfl (jgs_cons (jg_name (i := 3) sc.nd rfl (by first | exact Or.inl rfl | exact Or.inr rfl)) (jgs_cons (jg_name (i := 4) sc.nd rfl (by first | exact Or.inl rfl | exact Or.inr rfl)) (jgs_cons (jg_name (i := 5) sc.nd rfl (by first | exact Or.inl rfl | exact Or.inr rfl)) jgs_nil)))))
    (jss_cons (js_if (jt_cmp op_ltA os_ord (je_var (i := 2) rfl (by first | exact Or.inl rfl | exact Or.inr (Or.inl rfl) | exact Or.inr (Or.inr rfl))) je_int (nomark _))
    (jss_one (js_ret (jc_sh (je_tup (ja_c (jc_sh je_str) (ja_c (jc_sh (je_var (i := 3) rfl (by first | exact Or.inl rfl | exact Or.inr (Or.inl rfl) | exact Or.inr (Or.inr rfl)))) (ja_c (jc_sh (je_cell (jc_call (ok__law_one_of T) rfl (hr.mono (by decide)) (by rfl) T.g__law_one_of T.F__law_one_of.kp T.b__law_one_of (ja_c (jc_lo (jl_var (i := 0) rfl (by first | exact Or.inl rfl | exact Or.inr (Or.inl rfl) | exact Or.inr (Or.inr rfl)))) (ja_c (jc_sh (je_cell (jc_dget hr.units (jl_var (i := 1) rfl (by first | exact Or.inl rfl | exact Or.inr (Or.inl rfl) | exact Or.inr (Or.inr rfl))) je_str (fun _ _ => rfl)))) ja_nil))))) ja_nil)))))))
    jss_nil)
    (jss_cons (js_if (jt_cmp (op_eqA hr.units) os_eq (je_var (i := 2) rfl (by first | exact Or.inl rfl | exact Or.inr (Or.inl rfl) | exact Or.inr (Or.inr rfl))) je_int (nomark _))
    (jss_one (js_ret (jc_sh (je_tup (ja_c (jc_sh je_str) (ja_c (jc_sh (je_var (i := 3) rfl (by first | exact Or.inl rfl | exact Or.inr (Or.inl rfl) | exact Or.inr (Or.inr rfl)))) ja_nil))))))
    jss_nil)
    (jss_cons (js_if (jt_cmp (op_eqA hr.units) os_eq (je_var (i := 2) rfl (by first | exact Or.inl rfl | exact Or.inr (Or.inl rfl) | exact Or.inr (Or.inr rfl))) je_int (nomark _))
    (jss_one (js_ret (jc_sh (je_tup (ja_c (jc_sh je_str) (ja_c (jc_sh (je_var (i := 3) rfl (by first | exact Or.inl rfl | exact Or.inr (Or.inl rfl) | exact Or.inr (Or.inr rfl)))) (ja_c (jc_sh (je_ix (je_lst (ja_c (jc_sh je_int) (ja_c (jc_sh je_int) (ja_c (jc_sh je_int) (ja_c (jc_sh (je_cell (jc_call (ok__law_draw T) rfl (hr.mono (by decide)) (by rfl) T.g__law_draw T.F__law_draw.kp T.b__law_draw (ja_c (jc_lo (jl_var (i := 0) rfl (by first | exact Or.inl rfl | exact Or.inr (Or.inl rfl) | exact Or.inr (Or.inr rfl)))) (ja_c (jc_sh je_int) ja_nil))))) ja_nil))))) (je_cell (jc_call (ok__law_draw T) rfl (hr.mono (by decide)) (by rfl) T.g__law_draw T.F__law_draw.kp T.b__law_draw (ja_c (jc_lo (jl_var (i := 0) rfl (by first | exact Or.inl rfl | exact Or.inr (Or.inl rfl) | exact Or.inr (Or.inr rfl)))) (ja_c (jc_sh je_int) ja_nil)))) (fun _ _ => rfl))) ja_nil)))))))
    jss_nil)
    (jss_cons (js_if (jt_cmp op_ltA os_ord (je_var (i := 2) rfl (by first | exact Or.inl rfl | exact Or.inr (Or.inl rfl) | exact Or.inr (Or.inr rfl))) je_int (nomark _))
    (jss_one (js_ret (jc_sh (je_tup (ja_c (jc_sh je_str) (ja_c (jc_sh (je_var (i := 3) rfl (by first | exact Or.inl rfl | exact Or.inr (Or.inl rfl) | exact Or.inr (Or.inr rfl)))) (ja_c (jc_sh (je_var (i := 4) rfl (by first | exact Or.inl rfl | exact Or.inr (Or.inl rfl) | exact Or.inr (Or.inr rfl)))) ja_nil)))))))
    jss_nil)
    (jss_cons (js_if (jt_cmp op_ltA os_ord (je_var (i := 2) rfl (by first | exact Or.inl rfl | exact Or.inr (Or.inl rfl) | exact Or.inr (Or.inr rfl))) je_int (nomark _))
    (jss_one (js_ret (jc_sh (je_ix (je_lst (ja_c (jc_sh (je_tup (ja_c (jc_sh je_str) (ja_c (jc_sh (je_var (i := 3) rfl (by first | exact Or.inl rfl | exact Or.inr (Or.inl rfl) | exact Or.inr (Or.inr rfl)))) (ja_c (jc_sh (je_var (i := 4) rfl (by first | exact Or.inl rfl | exact Or.inr (Or.inl rfl) | exact Or.inr (Or.inr rfl)))) (ja_c (jc_sh (je_var (i := 5) rfl (by first | exact Or.inl rfl | exact Or.inr (Or.inl rfl) | exact Or.inr (Or.inr rfl)))) ja_nil)))))) (ja_c (jc_sh (je_tup (ja_c (jc_sh je_str) (ja_c (jc_sh (je_var (i := 3) rfl (by first | exact Or.inl rfl | exact Or.inr (Or.inl rfl) | exact Or.inr (Or.inr rfl)))) (ja_c (jc_sh (je_var (i := 4) rfl (by first | exact Or.inl rfl | exact Or.inr (Or.inl rfl) | exact Or.inr (Or.inr rfl)))) ja_nil))))) ja_nil))) (je_bin op_sub os_sub (je_var (i := 2) rfl (by first | exact Or.inl rfl | exact Or.inr (Or.inl rfl) | exact Or.inr (Or.inr rfl))) je_int) (fun _ _ => rfl)))))
    jss_nil)
    (jss_cons (js_if (jt_cmp (op_eqA hr.units) os_eq (je_var (i := 2) rfl (by first | exact Or.inl rfl | exact Or.inr (Or.inl rfl) | exact Or.inr (Or.inr rfl))) je_int (nomark _))
    (jss_one (js_ret (jc_sh (je_tup (ja_c (jc_sh je_str) (ja_c (jc_sh (je_var (i := 3) rfl (by first | exact Or.inl rfl | exact Or.inr (Or.inl rfl) | exact Or.inr (Or.inr rfl)))) ja_nil))))))
    jss_nil)
    (jss_cons (js_if (jt_cmp (op_eqA hr.units) os_eq (je_var (i := 2) rfl (by first | exact Or.inl rfl | exact Or.inr (Or.inl rfl) | exact Or.inr (Or.inr rfl))) je_int (nomark _))
    (jss_one (js_ret (jc_sh (je_tup (ja_c (jc_sh je_str) (ja_c (jc_sh (je_cell (jc_call (ok__law_picked T) rfl (hr.mono (by decide)) (by rfl) T.g__law_picked T.F__law_picked.kp T.b__law_picked (ja_c (jc_lo (jl_var (i := 0) rfl (by first | exact Or.inl rfl | exact Or.inr (Or.inl rfl) | exact Or.inr (Or.inr rfl)))) (ja_c (jc_sh (je_cell (jc_dget hr.units (jl_var (i := 1) rfl (by first | exact Or.inl rfl | exact Or.inr (Or.inl rfl) | exact Or.inr (Or.inr rfl))) je_str (fun _ _ => rfl)))) (ja_c (jc_sh (je_bin op_addA os_add je_int (je_cell (jc_call (ok__law_some T) rfl (hr.mono (by decide)) (by rfl) T.g__law_some T.F__law_some.kp T.b__law_some (ja_c (jc_lo (jl_var (i := 0) rfl (by first | exact Or.inl rfl | exact Or.inr (Or.inl rfl) | exact Or.inr (Or.inr rfl)))) (ja_c (jc_sh je_int) (ja_c (jc_sh je_int) ja_nil))))))) ja_nil)))))) ja_nil))))))
    jss_nil)
    (jss_one (js_ret (jc_sh (je_ix (je_lst (ja_c (jc_sh (je_tup (ja_c (jc_sh je_str) (ja_c (jc_sh (je_var (i := 3) rfl (by first | exact Or.inl rfl | exact Or.inr (Or.inl rfl) | exact Or.inr (Or.inr rfl)))) ja_nil)))) (ja_c (jc_sh (je_tup (ja_c (jc_sh je_str) (ja_c (jc_sh (je_ix (je_m1 PySem.F.slot_str_split PySem.F.type_str_split mt_split ms_split (je_var (i := 3) rfl (by first | exact Or.inl rfl | exact Or.inr (Or.inl rfl) | exact Or.inr (Or.inr rfl))) je_str) je_int (fun _ _ => rfl))) ja_nil)))) (ja_c (jc_sh (je_tup (ja_c (jc_sh je_str) (ja_c (jc_sh (je_ix (je_m1 PySem.F.slot_str_split PySem.F.type_str_split mt_split ms_split (je_ix (je_cell (jc_dget hr.units (jl_var (i := 1) rfl (by first | exact Or.inl rfl | exact Or.inr (Or.inl rfl) | exact Or.inr (Or.inr rfl))) je_str (fun _ _ => rfl))) je_int (fun _ _ => rfl)) je_str) je_int (fun _ _ => rfl))) ja_nil)))) ja_nil)))) (je_cell (jc_call (ok__law_draw T) rfl (hr.mono (by decide)) (by rfl) T.g__law_draw T.F__law_draw.kp T.b__law_draw (ja_c (jc_lo (jl_var (i := 0) rfl (by first | exact Or.inl rfl | exact Or.inr (Or.inl rfl) | exact Or.inr (Or.inr rfl)))) (ja_c (jc_sh je_int) ja_nil)))) (fun _ _ => rfl))))))))))))))
theorem ok_G39 (T : Tx w K mg) : ∀ k : Nat, FnOk P w K mg base CX0 (0 + k) T.a__law_formed T.d__law_formed ["_law_found"] (spF K 1 (f_G39 k 0))
  | 0 => fn_bad rfl
  | k + 1 => by
    have ih := ok_G39 T k
    exact (by
      have sc := sc__law_formed
      refine fn_J T.F__law_formed sc rfl rfl (by decide) fun cdv A outer s H E hr => ?_
      exact (jss_cons (js_if (jt_val (je_isi (T := "tuple") (T' := "tuple") (je_var (i := 0) rfl (by first | exact Or.inl rfl | exact Or.inr (Or.inl rfl) | exact Or.inr (Or.inr rfl))) (by rfl) T.z_isinstance (by rfl) T.z_tuple (by decide +kernel)))
    (jss_one (js_ret (jc_sh (je_cmp (op_eqA hr.units) os_eq (je_fr (jo_comp (own := [("_law_one", 1)]) (by decide) rfl sc.nd (ji_any (je_var (i := 0) rfl (by first | exact Or.inl rfl | exact Or.inr (Or.inl rfl) | exact Or.inr (Or.inr rfl)))) (blkOk_by (N := N__law_formed) (sc := defScope s__law_formed) (by decide +kernel)) (fun _ _ _ _ _ => (jg_name (i := 1) sc.nd rfl (by first | exact Or.inl rfl | exact Or.inr rfl))) (fun _ _ _ _ _ => (jts_one (jt_not (jt_val (je_cell (jc_call ih rfl hr (by rfl) T.g__law_formed T.F__law_formed.kp T.b__law_formed (ja_c (jc_sh (je_var (i := 1) rfl (by first | exact Or.inl rfl | exact Or.inr (Or.inl rfl) | exact Or.inr (Or.inr rfl)))) ja_nil))))))) (fun _ _ _ _ _ => (je_var (i := 1) rfl (by first | exact Or.inl rfl | exact Or.inr (Or.inl rfl) | exact Or.inr (Or.inr rfl)))))) (je_lst ja_nil) (nomark _)))))
    jss_nil)
    (jss_one (js_ret (jc_sh (je_or (je_isi (T := "str") (T' := "str") (je_var (i := 0) rfl (by first | exact Or.inl rfl | exact Or.inr (Or.inl rfl) | exact Or.inr (Or.inr rfl))) (by rfl) T.z_isinstance (by rfl) T.z_str (by decide +kernel)) (je_one (je_and (je_isi (T := "int") (T' := "int") (je_var (i := 0) rfl (by first | exact Or.inl rfl | exact Or.inr (Or.inl rfl) | exact Or.inr (Or.inr rfl))) (by rfl) T.z_isinstance (by rfl) T.z_int (by decide +kernel)) (je_one (je_not (je_isi (T := "bool") (T' := "bool") (je_var (i := 0) rfl (by first | exact Or.inl rfl | exact Or.inr (Or.inl rfl) | exact Or.inr (Or.inr rfl))) (by rfl) T.z_isinstance (by rfl) T.z_bool (by decide +kernel))))))))))))
theorem ok__law_done (T : Tx w K mg) : FnOk P w K mg base CX0 1 T.a__law_done T.d__law_done ["_law_things", "_law_word", "_law_number"] (spF K 3 f__law_done) := by
  have sc := sc__law_done
  refine fn_J T.F__law_done sc rfl rfl (by decide) fun cdv A outer s H E hr => ?_
  exact (jss_cons (js_lc (mc := (fun m => mSh (mFr m))) (i := 3) (own := [("_law_box", 7)]) (by decide) rfl sc.nd rfl rfl mc_fr (sw_true rfl rfl rfl (by decide +kernel)) (ji_any (je_slice (je_var (i := 1) rfl (by first | exact Or.inl rfl | exact Or.inr (Or.inl rfl) | exact Or.inr (Or.inr rfl))) (jp_some je_int) jp_none)) (blkOk_by (N := N__law_done) (sc := defScope s__law_done) (by decide +kernel)) (fun _ _ _ _ _ => (jg_name (i := 7) sc.nd rfl (by first | exact Or.inl rfl | exact Or.inr rfl))) (fun _ _ _ _ _ => (jts_one (jt_val (je_isi (T := "str") (T' := "str") (je_var (i := 7) rfl (by first | exact Or.inl rfl | exact Or.inr (Or.inl rfl) | exact Or.inr (Or.inr rfl))) (by rfl) T.z_isinstance (by rfl) T.z_str (by decide +kernel))))) (fun _ _ _ _ _ => (je_cell (jc_dget2 hr.units (jl_var (i := 0) rfl (by first | exact Or.inl rfl | exact Or.inr (Or.inl rfl) | exact Or.inr (Or.inr rfl))) (je_var (i := 7) rfl (by first | exact Or.inl rfl | exact Or.inr (Or.inl rfl) | exact Or.inr (Or.inr rfl))) (jc_sh (je_tup (ja_c (jc_sh je_int) (ja_c (jc_sh (je_tup ja_nil)) ja_nil)))) ⟨rfl, rfl, rfl, rfl⟩))))
    (jss_cons (js_if (jt_cmp (op_eqA hr.units) os_eq (je_ix (je_var (i := 1) rfl (by first | exact Or.inl rfl | exact Or.inr (Or.inl rfl) | exact Or.inr (Or.inr rfl))) je_int (fun _ _ => rfl)) je_str (nomark _))
    (jss_one (js_ret (jc_sh (je_tup (ja_c (jc_sh (je_lst (ja_c (jc_sh (je_ix (je_cell (jc_dget2 hr.units (jl_var (i := 0) rfl (by first | exact Or.inl rfl | exact Or.inr (Or.inl rfl) | exact Or.inr (Or.inr rfl))) (je_ix (je_var (i := 1) rfl (by first | exact Or.inl rfl | exact Or.inr (Or.inl rfl) | exact Or.inr (Or.inr rfl))) je_int (fun _ _ => rfl)) (jc_sh (je_tup (ja_c (jc_sh je_int) (ja_c (jc_sh (je_tup ja_nil)) ja_nil)))) ⟨rfl, rfl, rfl, rfl⟩)) je_int (fun _ _ => rfl))) ja_nil))) (ja_c (jc_sh (je_lst ja_nil)) ja_nil))))))
    jss_nil)
    (jss_cons (js_if (jt_cmp op_inA os_in (je_ix (je_var (i := 1) rfl (by first | exact Or.inl rfl | exact Or.inr (Or.inl rfl) | exact Or.inr (Or.inr rfl))) je_int (fun _ _ => rfl)) (je_tup (ja_c (jc_sh je_str) (ja_c (jc_sh je_str) (ja_c (jc_sh je_str) ja_nil)))) (by rfl))
    (jss_cons (js_set (i := 4) sc.nd rfl (by first | exact Or.inl rfl | exact Or.inr rfl) (jc_sh (je_cell (jc_dget2 hr.units (jl_disp (.cons je_str (jc_sh (je_lst (ja_c (jc_sh (je_ix (je_var (i := 1) rfl (by first | exact Or.inl rfl | exact Or.inr (Or.inl rfl) | exact Or.inr (Or.inr rfl))) je_int (fun _ _ => rfl))) ja_nil))) (.cons je_str (jc_sh (je_callTy (call_listA rfl) cs_listS (by rfl) T.z_list (by decide +kernel) (ja_c (jc_sh (je_ix (je_var (i := 1) rfl (by first | exact Or.inl rfl | exact Or.inr (Or.inl rfl) | exact Or.inr (Or.inr rfl))) je_int (fun _ _ => rfl))) ja_nil))) .nil)) (by simp) (by decide)) (je_ix (je_var (i := 1) rfl (by first | exact Or.inl rfl | exact Or.inr (Or.inl rfl) | exact Or.inr (Or.inr rfl))) je_int (fun _ _ => rfl)) (jc_sh (je_lst ja_nil)) ⟨rfl, rfl, rfl, rfl⟩))))
    (jss_cons (js_if (jt_cmp (op_eqA hr.units) os_eq (je_ix (je_var (i := 1) rfl (by first | exact Or.inl rfl | exact Or.inr (Or.inl rfl) | exact Or.inr (Or.inr rfl))) je_int (fun _ _ => rfl)) je_str (nomark _))
    (jss_one (js_lc (mc := (fun m => mSh (mFr m))) (i := 4) (own := [("_law_box", 7)]) (by decide) rfl sc.nd rfl rfl mc_fr (sw_true rfl rfl rfl (by decide +kernel)) (ji_any (je_fr (jo_listD rfl (by rfl) T.z_list (by decide +kernel) (jl_var (i := 0) rfl (by first | exact Or.inl rfl | exact Or.inr (Or.inl rfl) | exact Or.inr (Or.inr rfl)))))) (blkOk_by (N := N__law_done) (sc := defScope s__law_done) (by decide +kernel)) (fun _ _ _ _ _ => (jg_name (i := 7) sc.nd rfl (by first | exact Or.inl rfl | exact Or.inr rfl))) (fun _ _ _ _ _ => (jts_one (jt_cmp (op_eqA hr.units) os_eq (je_slice (je_var (i := 7) rfl (by first | exact Or.inl rfl | exact Or.inr (Or.inl rfl) | exact Or.inr (Or.inr rfl))) jp_none (jp_some (je_bin op_addA os_add (je_callB call_lenA cs_len (by rfl) T.z_len (by decide +kernel) (ja_c (jc_sh (je_ix (je_var (i := 1) rfl (by first | exact Or.inl rfl | exact Or.inr (Or.inl rfl) | exact Or.inr (Or.inr rfl))) je_int (fun _ _ => rfl))) ja_nil)) je_int))) (je_bin op_addA os_add (je_ix (je_var (i := 1) rfl (by first | exact Or.inl rfl | exact Or.inr (Or.inl rfl) | exact Or.inr (Or.inr rfl))) je_int (fun _ _ => rfl)) je_str) (nomark _)))) (fun _ _ _ _ _ => (je_var (i := 7) rfl (by first | exact Or.inl rfl | exact Or.inr (Or.inl rfl) | exact Or.inr (Or.inr rfl))))))
    jss_nil)
    (jss_cons (js_lc (mc := (fun m => mSh (mFr m))) (i := 5) (own := [("_law_box", 7)]) (by decide) rfl sc.nd rfl rfl mc_fr (sw_true rfl rfl rfl (by decide +kernel)) (ji_any (je_var (i := 4) rfl (by first | exact Or.inl rfl | exact Or.inr (Or.inl rfl) | exact Or.inr (Or.inr rfl)))) (blkOk_by (N := N__law_done) (sc := defScope s__law_done) (by decide +kernel)) (fun _ _ _ _ _ => (jg_name (i := 7) sc.nd rfl (by first | exact Or.inl rfl | exact Or.inr rfl))) (fun _ _ _ _ _ => jts_nil) (fun _ _ _ _ _ => (je_tup (ja_c (jc_sh (je_var (i := 7) rfl (by first | exact Or.inl rfl | exact Or.inr (Or.inl rfl) | exact Or.inr (Or.inr rfl)))) (ja_c (jc_sh (je_ix (je_cell (jc_dpop2 (jl_var (i := 0) rfl (by first | exact Or.inl rfl | exact Or.inr (Or.inl rfl) | exact Or.inr (Or.inr rfl))) (je_var (i := 7) rfl (by first | exact Or.inl rfl | exact Or.inr (Or.inl rfl) | exact Or.inr (Or.inr rfl))) (jc_sh (je_tup (ja_c (jc_sh je_int) (ja_c (jc_sh (je_tup ja_nil)) ja_nil)))) ⟨rfl, rfl, rfl, rfl⟩)) je_int (fun _ _ => rfl))) ja_nil)))))
    (jss_one (js_ret (jc_sh (je_tup (ja_c (jc_sh (je_lst ja_nil)) (ja_c (jc_sh (je_sortL hr.units (by rfl) T.z_sorted (by decide +kernel) (je_fr (jo_comp (own := [("_law_pair", 8)]) (by decide) rfl sc.nd (ji_any (je_var (i := 5) rfl (by first | exact Or.inl rfl | exact Or.inr (Or.inl rfl) | exact Or.inr (Or.inr rfl)))) (blkOk_by (N := N__law_done) (sc := defScope s__law_done) (by decide +kernel)) (fun _ _ _ _ _ => (jg_name (i := 8) sc.nd rfl (by first | exact Or.inl rfl | exact Or.inr rfl))) (fun _ _ _ _ _ => (jts_one (PW.pt (jw_and (jt_cmp (op_eqA hr.units) os_eq (je_ix (je_var (i := 1) rfl (by first | exact Or.inl rfl | exact Or.inr (Or.inl rfl) | exact Or.inr (Or.inr rfl))) je_int (fun _ _ => rfl)) je_str (nomark _)) (jw_and1 (jt_cmp (op_neA hr.units) os_ne (je_ix (je_var (i := 8) rfl (by first | exact Or.inl rfl | exact Or.inr (Or.inl rfl) | exact Or.inr (Or.inr rfl))) je_int (fun _ _ => rfl)) (je_tup ja_nil) (nomark _))))))) (fun _ _ _ _ _ => (je_var (i := 8) rfl (by first | exact Or.inl rfl | exact Or.inr (Or.inl rfl) | exact Or.inr (Or.inr rfl)))))))) ja_nil)))))))))
    jss_nil)
    (jss_cons (js_if (jt_cmp (op_eqA hr.units) os_eq (je_ix (je_var (i := 1) rfl (by first | exact Or.inl rfl | exact Or.inr (Or.inl rfl) | exact Or.inr (Or.inr rfl))) je_int (fun _ _ => rfl)) je_str (nomark _))
    (jss_cons (js_set (i := 6) sc.nd rfl (by first | exact Or.inl rfl | exact Or.inr rfl) (jc_sh (je_callTy call_tuple_of cs_tuple (by rfl) T.z_tuple (by decide +kernel) (ja_c (jc_sh (je_sortSet rfl (by rfl) T.z_sorted (by decide +kernel) (by rfl) T.z_set (by decide +kernel) (jc_sh (je_bin op_addA os_add (je_ix (je_ix (je_var (i := 3) rfl (by first | exact Or.inl rfl | exact Or.inr (Or.inl rfl) | exact Or.inr (Or.inr rfl))) je_int (fun _ _ => rfl)) je_int (fun _ _ => rfl)) (je_ix (je_ix (je_var (i := 3) rfl (by first | exact Or.inl rfl | exact Or.inr (Or.inl rfl) | exact Or.inr (Or.inr rfl))) je_int (fun _ _ => rfl)) je_int (fun _ _ => rfl)))))) ja_nil))))
    (jss_one (js_dput hr.units (jl_var (i := 0) rfl (by first | exact Or.inl rfl | exact Or.inr (Or.inl rfl) | exact Or.inr (Or.inr rfl))) (je_ix (je_var (i := 1) rfl (by first | exact Or.inl rfl | exact Or.inr (Or.inl rfl) | exact Or.inr (Or.inr rfl))) je_int (fun _ _ => rfl)) (jc_sh (je_tup (ja_c (jc_sh (je_bin op_mod os_mod (je_bin op_addA os_add (je_bin op_addA os_add (je_ix (je_ix (je_var (i := 3) rfl (by first | exact Or.inl rfl | exact Or.inr (Or.inl rfl) | exact Or.inr (Or.inr rfl))) je_int (fun _ _ => rfl)) je_int (fun _ _ => rfl)) (je_ix (je_ix (je_var (i := 3) rfl (by first | exact Or.inl rfl | exact Or.inr (Or.inl rfl) | exact Or.inr (Or.inr rfl))) je_int (fun _ _ => rfl)) je_int (fun _ _ => rfl))) (je_ix (je_ix (je_var (i := 3) rfl (by first | exact Or.inl rfl | exact Or.inr (Or.inl rfl) | exact Or.inr (Or.inr rfl))) je_int (fun _ _ => rfl)) je_int (fun _ _ => rfl))) je_int)) (ja_c (jc_sh (je_var (i := 6) rfl (by first | exact Or.inl rfl | exact Or.inr (Or.inl rfl) | exact Or.inr (Or.inr rfl)))) ja_nil)))))))
    (jss_one (js_if (jt_cmp (op_eqA hr.units) os_eq (je_ix (je_var (i := 1) rfl (by first | exact Or.inl rfl | exact Or.inr (Or.inl rfl) | exact Or.inr (Or.inr rfl))) je_int (fun _ _ => rfl)) je_str (nomark _))
    (jss_one (js_dput hr.units (jl_var (i := 0) rfl (by first | exact Or.inl rfl | exact Or.inr (Or.inl rfl) | exact Or.inr (Or.inr rfl))) (je_ix (je_var (i := 1) rfl (by first | exact Or.inl rfl | exact Or.inr (Or.inl rfl) | exact Or.inr (Or.inr rfl))) je_int (fun _ _ => rfl)) (jc_sh (je_ix (je_var (i := 3) rfl (by first | exact Or.inl rfl | exact Or.inr (Or.inl rfl) | exact Or.inr (Or.inr rfl))) je_int (fun _ _ => rfl)))))
    (jss_one (js_if (jt_cmp (op_eqA hr.units) os_eq (je_ix (je_var (i := 1) rfl (by first | exact Or.inl rfl | exact Or.inr (Or.inl rfl) | exact Or.inr (Or.inr rfl))) je_int (fun _ _ => rfl)) je_str (nomark _))
    (jss_one (js_dput hr.units (jl_var (i := 0) rfl (by first | exact Or.inl rfl | exact Or.inr (Or.inl rfl) | exact Or.inr (Or.inr rfl))) (je_ix (je_var (i := 1) rfl (by first | exact Or.inl rfl | exact Or.inr (Or.inl rfl) | exact Or.inr (Or.inr rfl))) je_int (fun _ _ => rfl)) (jc_sh (je_tup (ja_c (jc_sh (je_bin op_mod os_mod (je_ix (je_ix (je_var (i := 3) rfl (by first | exact Or.inl rfl | exact Or.inr (Or.inl rfl) | exact Or.inr (Or.inr rfl))) je_int (fun _ _ => rfl)) je_int (fun _ _ => rfl)) je_int)) (ja_c (jc_sh (je_tup ja_nil)) ja_nil))))))
    (jss_one (js_if (jt_cmp (op_eqA hr.units) os_eq (je_ix (je_var (i := 1) rfl (by first | exact Or.inl rfl | exact Or.inr (Or.inl rfl) | exact Or.inr (Or.inr rfl))) je_int (fun _ _ => rfl)) je_str (nomark _))
    (jss_one (js_dput hr.units (jl_var (i := 0) rfl (by first | exact Or.inl rfl | exact Or.inr (Or.inl rfl) | exact Or.inr (Or.inr rfl))) (je_ix (je_var (i := 1) rfl (by first | exact Or.inl rfl | exact Or.inr (Or.inl rfl) | exact Or.inr (Or.inr rfl))) je_int (fun _ _ => rfl)) (jc_sh (je_tup (ja_c (jc_sh (je_var (i := 2) rfl (by first | exact Or.inl rfl | exact Or.inr (Or.inl rfl) | exact Or.inr (Or.inr rfl)))) (ja_c (jc_sh (je_tup (ja_c (jc_sh (je_ix (je_var (i := 1) rfl (by first | exact Or.inl rfl | exact Or.inr (Or.inl rfl) | exact Or.inr (Or.inr rfl))) je_int (fun _ _ => rfl))) ja_nil))) ja_nil))))))
    (jss_one (js_dput hr.units (jl_var (i := 0) rfl (by first | exact Or.inl rfl | exact Or.inr (Or.inl rfl) | exact Or.inr (Or.inr rfl))) (je_ix (je_var (i := 1) rfl (by first | exact Or.inl rfl | exact Or.inr (Or.inl rfl) | exact Or.inr (Or.inr rfl))) je_int (fun _ _ => rfl)) (jc_sh (je_tup (ja_c (jc_sh (je_var (i := 2) rfl (by first | exact Or.inl rfl | exact Or.inr (Or.inl rfl) | exact Or.inr (Or.inr rfl)))) (ja_c (jc_sh (je_tup ja_nil)) ja_nil)))))))))))))
    (jss_one (js_ret (jc_sh (je_tup (ja_c (jc_sh (je_lst ja_nil)) (ja_c (jc_sh (je_lst ja_nil)) ja_nil))))))))))
theorem ok__law_due (T : Tx w K mg) : FnOk P w K mg base CX0 2 T.a__law_due T.d__law_due ["_law_row", "_law_numbers", "_law_most"] (spF K 3 f__law_due) := by
  have sc := sc__law_due
  refine fn_J T.F__law_due sc rfl rfl (by decide) fun cdv A outer s H E hr => ?_
  exact (jss_cons (js_set (i := 3) sc.nd rfl (by first | exact Or.inl rfl | exact Or.inr rfl) (jc_lo jl_dnew))
    (jss_cons (js_set (i := 4) sc.nd rfl (by first | exact Or.inl rfl | exact Or.inr rfl) (jc_lo (jl_new (jo_lst ja_nil))))
    (jss_cons (js_set (i := 5) sc.nd rfl (by first | exact Or.inl rfl | exact Or.inr rfl) (jc_lo (jl_new (jo_lst ja_nil))))
    (jss_cons (js_for PassesOwn.never rfl (ji_range1 (by rfl) T.z_range (je_callB (call_min2 rfl) (cs_II (f := fun i j => if j < i then j else i)) (by rfl) T.z_min (by decide +kernel) (ja_c (jc_sh (je_var (i := 2) rfl (by first | exact Or.inl rfl | exact Or.inr (Or.inl rfl) | exact Or.inr (Or.inr rfl)))) (ja_c (jc_sh (je_callB call_lenA cs_len (by rfl) T.z_len (by decide +kernel) (ja_c (jc_sh (je_var (i := 0) rfl (by first | exact Or.inl rfl | exact Or.inr (Or.inl rfl) | exact Or.inr (Or.inr rfl)))) ja_nil))) ja_nil)))) (jg_name (i := 6) sc.nd rfl (by first | exact Or.inl rfl | exact Or.inr rfl))
    (jss_cons (js_asg (jc_sh (je_cell (jc_call (ok__law_done T) rfl (hr.mono (by decide)) (by rfl) T.g__law_done T.F__law_done.kp T.b__law_done (ja_c (jc_lo (jl_var (i := 3) rfl (by first | exact Or.inl rfl | exact Or.inr (Or.inl rfl) | exact Or.inr (Or.inr rfl)))) (ja_c (jc_sh (je_ix (je_var (i := 0) rfl (by first | exact Or.inl rfl | exact Or.inr (Or.inl rfl) | exact Or.inr (Or.inr rfl))) (je_var (i := 6) rfl (by first | exact Or.inl rfl | exact Or.inr (Or.inl rfl) | exact Or.inr (Or.inr rfl))) (fun _ _ => rfl))) (ja_c (jc_sh (je_cell (jc_ix (jc_var (i := 1) rfl (by first | exact Or.inl rfl | exact Or.inr (Or.inl rfl) | exact Or.inr (Or.inr rfl))) (je_var (i := 6) rfl (by first | exact Or.inl rfl | exact Or.inr (Or.inl rfl) | exact Or.inr (Or.inr rfl))) (fun _ _ => rfl)))) ja_nil)))))) (jg_tup rfl (jgs_cons (jg_name (i := 8) sc.nd rfl (by first | exact Or.inl rfl | exact Or.inr rfl)) (jgs_cons (jg_name (i := 9) sc.nd rfl (by first | exact Or.inl rfl | exact Or.inr rfl)) jgs_nil))))
    (jss_cons (js_ext (jl_var (i := 4) rfl (by first | exact Or.inl rfl | exact Or.inr (Or.inl rfl) | exact Or.inr (Or.inr rfl))) (jc_sh (je_var (i := 8) rfl (by first | exact Or.inl rfl | exact Or.inr (Or.inl rfl) | exact Or.inr (Or.inr rfl)))) (PE0 := (pe_bm PySem.F.plainAttrs_list PySem.F.slot_list_extend PySem.F.type_list_extend mt_extA (jl_var (i := 4) rfl (by first | exact Or.inl rfl | exact Or.inr (Or.inl rfl) | exact Or.inr (Or.inr rfl))) (pa_cons (jc_sh (je_var (i := 8) rfl (by first | exact Or.inl rfl | exact Or.inr (Or.inl rfl) | exact Or.inr (Or.inr rfl)))) pa_nil))))
    (jss_one (js_ext (jl_var (i := 5) rfl (by first | exact Or.inl rfl | exact Or.inr (Or.inl rfl) | exact Or.inr (Or.inr rfl))) (jc_sh (je_fr (jo_comp (own := [("_law_pair", 11)]) (by decide) rfl sc.nd (ji_any (je_var (i := 9) rfl (by first | exact Or.inl rfl | exact Or.inr (Or.inl rfl) | exact Or.inr (Or.inr rfl)))) (blkOk_by (N := N__law_due) (sc := defScope s__law_due) (by decide +kernel)) (fun _ _ _ _ _ => (jg_name (i := 11) sc.nd rfl (by first | exact Or.inl rfl | exact Or.inr rfl))) (fun _ _ _ _ _ => jts_nil) (fun _ _ _ _ _ => (je_bin op_addA os_add (je_tup (ja_c (jc_sh (je_tup (ja_c (jc_sh je_str) (ja_c (jc_sh (je_var (i := 6) rfl (by first | exact Or.inl rfl | exact Or.inr (Or.inl rfl) | exact Or.inr (Or.inr rfl)))) ja_nil)))) ja_nil)) (je_var (i := 11) rfl (by first | exact Or.inl rfl | exact Or.inr (Or.inl rfl) | exact Or.inr (Or.inr rfl)))))))) (PE0 := (pe_bm PySem.F.plainAttrs_list PySem.F.slot_list_extend PySem.F.type_list_extend mt_extA (jl_var (i := 5) rfl (by first | exact Or.inl rfl | exact Or.inr (Or.inl rfl) | exact Or.inr (Or.inr rfl))) (pa_cons (jc_sh (je_fr (jo_comp (own := [("_law_pair", 11)]) (by decide) rfl sc.nd (ji_any (je_var (i := 9) rfl (by first | exact Or.inl rfl | exact Or.inr (Or.inl rfl) | exact Or.inr (Or.inr rfl)))) (blkOk_by (N := N__law_due) (sc := defScope s__law_due) (by decide +kernel)) (fun _ _ _ _ _ => (jg_name (i := 11) sc.nd rfl (by first | exact Or.inl rfl | exact Or.inr rfl))) (fun _ _ _ _ _ => jts_nil) (fun _ _ _ _ _ => (je_bin op_addA os_add (je_tup (ja_c (jc_sh (je_tup (ja_c (jc_sh je_str) (ja_c (jc_sh (je_var (i := 6) rfl (by first | exact Or.inl rfl | exact Or.inr (Or.inl rfl) | exact Or.inr (Or.inr rfl)))) ja_nil)))) ja_nil)) (je_var (i := 11) rfl (by first | exact Or.inl rfl | exact Or.inr (Or.inl rfl) | exact Or.inr (Or.inr rfl)))))))) pa_nil))))))))
    (jss_cons (js_set (i := 7) sc.nd rfl (by first | exact Or.inl rfl | exact Or.inr rfl) (jc_sh (je_sortL hr.units (by rfl) T.z_sorted (by decide +kernel) (je_fr (jo_lockK (p := (mLV 3)) (jo_comp (own := [("_law_box", 10)]) (by decide) rfl sc.nd (ji_keysK (jl_var (i := 3) rfl (by first | exact Or.inl rfl | exact Or.inr (Or.inl rfl) | exact Or.inr (Or.inr rfl)))) (blkOk_by (N := N__law_due) (sc := defScope s__law_due) (by decide +kernel)) (fun _ _ _ _ _ => (jg_name (i := 10) sc.nd rfl (by first | exact Or.inl rfl | exact Or.inr rfl))) (fun _ _ _ _ _ => (jts_one (jt_cmp (op_neA hr.units) os_ne (je_cell (jc_dgetF hr.units (jl_var (i := 3) rfl (by first | exact Or.inl rfl | exact Or.inr (Or.inl rfl) | exact Or.inr (Or.inr rfl))) (je_var (i := 10) rfl (by first | exact Or.inl rfl | exact Or.inr (Or.inl rfl) | exact Or.inr (Or.inr rfl))) (fun _ _ => rfl))) (je_tup (ja_c (jc_sh je_int) (ja_c (jc_sh (je_tup ja_nil)) ja_nil))) (nomark _)))) (fun _ _ _ _ _ => (je_bin op_addA os_add (je_tup (ja_c (jc_sh (je_var (i := 10) rfl (by first | exact Or.inl rfl | exact Or.inr (Or.inl rfl) | exact Or.inr (Or.inr rfl)))) ja_nil)) (je_cell (jc_dgetF hr.units (jl_var (i := 3) rfl (by first | exact Or.inl rfl | exact Or.inr (Or.inl rfl) | exact Or.inr (Or.inr rfl))) (je_var (i := 10) rfl (by first | exact Or.inl rfl | exact Or.inr (Or.inl rfl) | exact Or.inr (Or.inr rfl))) (fun _ _ => rfl)))))))))))
    (jss_cons (js_if (jt_cmp op_ltA os_ord (je_var (i := 2) rfl (by first | exact Or.inl rfl | exact Or.inr (Or.inl rfl) | exact Or.inr (Or.inr rfl))) (je_callB call_lenA cs_len (by rfl) T.z_len (by decide +kernel) (ja_c (jc_sh (je_var (i := 0) rfl (by first | exact Or.inl rfl | exact Or.inr (Or.inl rfl) | exact Or.inr (Or.inr rfl)))) ja_nil)) (nomark _))
    (jss_one (js_ret (jc_sh (je_tup (ja_c (jc_sh je_str) (ja_c (jc_sh (je_tup (ja_c (jc_sh je_str) (ja_c (jc_sh (je_var (i := 2) rfl (by first | exact Or.inl rfl | exact Or.inr (Or.inl rfl) | exact Or.inr (Or.inr rfl)))) ja_nil)))) (ja_c (jc_sh (je_var (i := 2) rfl (by first | exact Or.inl rfl | exact Or.inr (Or.inl rfl) | exact Or.inr (Or.inr rfl)))) (ja_c (jc_sh (je_tupOf (by rfl) T.z_tuple (by decide +kernel) (jc_lo (jl_var (i := 4) rfl (by first | exact Or.inl rfl | exact Or.inr (Or.inl rfl) | exact Or.inr (Or.inr rfl)))))) (ja_c (jc_sh (je_tupOf (by rfl) T.z_tuple (by decide +kernel) (jc_lo (jl_var (i := 5) rfl (by first | exact Or.inl rfl | exact Or.inr (Or.inl rfl) | exact Or.inr (Or.inr rfl)))))) (ja_c (jc_sh (je_callTy call_tuple_of cs_tuple (by rfl) T.z_tuple (by decide +kernel) (ja_c (jc_sh (je_var (i := 7) rfl (by first | exact Or.inl rfl | exact Or.inr (Or.inl rfl) | exact Or.inr (Or.inr rfl)))) ja_nil))) ja_nil))))))))))
    jss_nil)
    (jss_cons (js_ext (jl_var (i := 5) rfl (by first | exact Or.inl rfl | exact Or.inr (Or.inl rfl) | exact Or.inr (Or.inr rfl))) (jc_sh (je_fr (jo_comp (own := [("_law_box", 10), ("_law_number", 12), ("_law_worths", 13)]) (by decide) rfl sc.nd (ji_any (je_var (i := 7) rfl (by first | exact Or.inl rfl | exact Or.inr (Or.inl rfl) | exact Or.inr (Or.inr rfl)))) (blkOk_by (N := N__law_due) (sc := defScope s__law_due) (by decide +kernel)) (fun _ _ _ _ _ => (jg_tup rfl (jgs_cons (jg_name (i := 10) sc.nd rfl (by first | exact Or.inl rfl | exact Or.inr rfl)) (jgs_cons (jg_name (i := 12) sc.nd rfl (by first | exact Or.inl rfl | exact Or.inr rfl)) (jgs_cons (jg_name (i := 13) sc.nd rfl (by first | exact Or.inl rfl | exact Or.inr rfl)) jgs_nil))))) (fun _ _ _ _ _ => (jts_one (jt_cmp (op_neA hr.units) os_ne (je_var (i := 13) rfl (by first | exact Or.inl rfl | exact Or.inr (Or.inl rfl) | exact Or.inr (Or.inr rfl))) (je_tup ja_nil) (nomark _)))) (fun _ _ _ _ _ => (je_tup (ja_c (jc_sh (je_tup (ja_c (jc_sh je_str) (ja_c (jc_sh (je_callB call_lenA cs_len (by rfl) T.z_len (by decide +kernel) (ja_c (jc_sh (je_var (i := 0) rfl (by first | exact Or.inl rfl | exact Or.inr (Or.inl rfl) | exact Or.inr (Or.inr rfl)))) ja_nil))) ja_nil)))) (ja_c (jc_sh (je_var (i := 10) rfl (by first | exact Or.inl rfl | exact Or.inr (Or.inl rfl) | exact Or.inr (Or.inr rfl)))) (ja_c (jc_sh (je_var (i := 13) rfl (by first | exact Or.inl rfl | exact Or.inr (Or.inl rfl) | exact Or.inr (Or.inr rfl)))) ja_nil)))))))) (PE0 := (pe_bm PySem.F.plainAttrs_list PySem.F.slot_list_extend PySem.F.type_list_extend mt_extA (jl_var (i := 5) rfl (by first | exact Or.inl rfl | exact Or.inr (Or.inl rfl) | exact Or.inr (Or.inr rfl))) (pa_cons (jc_sh (je_fr (jo_comp (own := [("_law_box", 10), ("_law_number", 12), ("_law_worths", 13)]) (by decide) rfl sc.nd (ji_any (je_var (i := 7) rfl (by first | exact Or.inl rfl | exact Or.inr (Or.inl rfl) | exact Or.inr (Or.inr rfl)))) (blkOk_by (N := N__law_due) (sc := defScope s__law_due) (by decide +kernel)) (fun _ _ _ _ _ => (jg_tup rfl (jgs_cons (jg_name (i := 10) sc.nd rfl (by first | exact Or.inl rfl | exact Or.inr rfl)) (jgs_cons (jg_name (i := 12) sc.nd rfl (by first | exact Or.inl rfl | exact Or.inr rfl)) (jgs_cons (jg_name (i := 13) sc.nd rfl (by first | exact Or.inl rfl | exact Or.inr rfl)) jgs_nil))))) (fun _ _ _ _ _ => (jts_one (jt_cmp (op_neA hr.units) os_ne (je_var (i := 13) rfl (by first | exact Or.inl rfl | exact Or.inr (Or.inl rfl) | exact Or.inr (Or.inr rfl))) (je_tup ja_nil) (nomark _)))) (fun _ _ _ _ _ => (je_tup (ja_c (jc_sh (je_tup (ja_c (jc_sh je_str) (ja_c (jc_sh (je_callB call_lenA cs_len (by rfl) T.z_len (by decide +kernel) (ja_c (jc_sh (je_var (i := 0) rfl (by first | exact Or.inl rfl | exact Or.inr (Or.inl rfl) | exact Or.inr (Or.inr rfl)))) ja_nil))) ja_nil)))) (ja_c (jc_sh (je_var (i := 10) rfl (by first | exact Or.inl rfl | exact Or.inr (Or.inl rfl) | exact Or.inr (Or.inr rfl)))) (ja_c (jc_sh (je_var (i := 13) rfl (by first | exact Or.inl rfl | exact Or.inr (Or.inl rfl) | exact Or.inr (Or.inr rfl)))) ja_nil)))))))) pa_nil))))
    (jss_one (js_ret (jc_sh (je_tup (ja_c (jc_sh je_str) (ja_c (jc_sh (je_callB call_lenA cs_len (by rfl) T.z_len (by decide +kernel) (ja_c (jc_sh (je_var (i := 0) rfl (by first | exact Or.inl rfl | exact Or.inr (Or.inl rfl) | exact Or.inr (Or.inr rfl)))) ja_nil))) (ja_c (jc_sh (je_tupOf (by rfl) T.z_tuple (by decide +kernel) (jc_lo (jl_var (i := 4) rfl (by first | exact Or.inl rfl | exact Or.inr (Or.inl rfl) | exact Or.inr (Or.inr rfl)))))) (ja_c (jc_sh (je_tupOf (by rfl) T.z_tuple (by decide +kernel) (jc_lo (jl_var (i := 5) rfl (by first | exact Or.inl rfl | exact Or.inr (Or.inl rfl) | exact Or.inr (Or.inr rfl)))))) ja_nil)))))))))))))))
theorem ok_law (T : Tx w K mg) : FnOk P w K mg base CX0 25 T.a_law T.d_law ["_law_script"] (spF K 1 f_law) := by
  have sc := sc_law
  refine fn_J T.F_law sc rfl rfl (by decide) fun cdv A outer s H E hr => ?_
  exact (jss_cons (js_set (i := 1) sc.nd rfl (by first | exact Or.inl rfl | exact Or.inr rfl) (jc_lo (jl_cell (jc_call (ok__law_deck T) rfl (hr.mono (by decide)) (by rfl) T.g__law_deck T.F__law_deck.kp T.b__law_deck (ja_c (jc_sh (je_var (i := 0) rfl (by first | exact Or.inl rfl | exact Or.inr (Or.inl rfl) | exact Or.inr (Or.inr rfl)))) ja_nil)))))
    (jss_cons (js_set (i := 2) sc.nd rfl (by first | exact Or.inl rfl | exact Or.inr rfl) (jc_sh (je_cell (jc_call (ok__law_names T) rfl (hr.mono (by decide)) (by rfl) T.g__law_names T.F__law_names.kp T.b__law_names (ja_c (jc_lo (jl_var (i := 1) rfl (by first | exact Or.inl rfl | exact Or.inr (Or.inl rfl) | exact Or.inr (Or.inr rfl)))) (ja_c (jc_sh je_int) ja_nil))))))
    (jss_cons (js_set (i := 3) sc.nd rfl (by first | exact Or.inl rfl | exact Or.inr rfl) (jc_lo (jl_disp (.cons je_str (jc_sh (je_cell (jc_call (ok__law_boxes T) rfl (hr.mono (by decide)) (by rfl) T.g__law_boxes T.F__law_boxes.kp T.b__law_boxes (ja_c (jc_lo (jl_var (i := 1) rfl (by first | exact Or.inl rfl | exact Or.inr (Or.inl rfl) | exact Or.inr (Or.inr rfl)))) (ja_c (jc_sh (je_var (i := 2) rfl (by first | exact Or.inl rfl | exact Or.inr (Or.inl rfl) | exact Or.inr (Or.inr rfl)))) ja_nil))))) (.cons je_str (jc_sh (je_bin op_addA os_add (je_slice (je_var (i := 2) rfl (by first | exact Or.inl rfl | exact Or.inr (Or.inl rfl) | exact Or.inr (Or.inr rfl))) (jp_some je_int) (jp_some je_int)) (je_slice (je_var (i := 2) rfl (by first | exact Or.inl rfl | exact Or.inr (Or.inl rfl) | exact Or.inr (Or.inr rfl))) jp_none (jp_some je_int)))) .nil)) (by simp) (by decide))))
    (jss_cons (js_set (i := 4) sc.nd rfl (by first | exact Or.inl rfl | exact Or.inr rfl) (jc_sh (je_callTy call_tuple_of cs_tuple (by rfl) T.z_tuple (by decide +kernel) (ja_c (jc_sh (je_fr (jo_comp (own := [("_law_k", 13)]) (by decide) rfl sc.nd (ji_range1 (by rfl) T.z_range (je_ix (je_lst (ja_c (jc_sh (je_cell (jc_call (ok__law_draw T) rfl (hr.mono (by decide)) (by rfl) T.g__law_draw T.F__law_draw.kp T.b__law_draw (ja_c (jc_lo (jl_var (i := 1) rfl (by first | exact Or.inl rfl | exact Or.inr (Or.inl rfl) | exact Or.inr (Or.inr rfl)))) (ja_c (jc_sh je_int) ja_nil))))) (ja_c (jc_sh (je_cell (jc_call (ok__law_draw T) rfl (hr.mono (by decide)) (by rfl) T.g__law_draw T.F__law_draw.kp T.b__law_draw (ja_c (jc_lo (jl_var (i := 1) rfl (by first | exact Or.inl rfl | exact Or.inr (Or.inl rfl) | exact Or.inr (Or.inr rfl)))) (ja_c (jc_sh je_int) ja_nil))))) ja_nil))) (je_cell (jc_call (ok__law_draw T) rfl (hr.mono (by decide)) (by rfl) T.g__law_draw T.F__law_draw.kp T.b__law_draw (ja_c (jc_lo (jl_var (i := 1) rfl (by first | exact Or.inl rfl | exact Or.inr (Or.inl rfl) | exact Or.inr (Or.inr rfl)))) (ja_c (jc_sh je_int) ja_nil)))) (fun _ _ => rfl))) (blkOk_by (N := N_law) (sc := defScope s_law) (by decide +kernel)) (fun _ _ _ _ _ => (jg_name (i := 13) sc.nd rfl (by first | exact Or.inl rfl | exact Or.inr rfl))) (fun _ _ _ _ _ => jts_nil) (fun _ _ _ _ _ => (je_cell (jc_call (ok__law_plain T) rfl (hr.mono (by decide)) (by rfl) T.g__law_plain T.F__law_plain.kp T.b__law_plain (ja_c (jc_lo (jl_var (i := 1) rfl (by first | exact Or.inl rfl | exact Or.inr (Or.inl rfl) | exact Or.inr (Or.inr rfl)))) (ja_c (jc_lo (jl_var (i := 3) rfl (by first | exact Or.inl rfl | exact Or.inr (Or.inl rfl) | exact Or.inr (Or.inr rfl)))) ja_nil)))))))) ja_nil))))
    (jss_cons (js_if (jt_cmp (op_eqA hr.units) os_eq (je_cell (jc_call (ok__law_draw T) rfl (hr.mono (by decide)) (by rfl) T.g__law_draw T.F__law_draw.kp T.b__law_draw (ja_c (jc_lo (jl_var (i := 1) rfl (by first | exact Or.inl rfl | exact Or.inr (Or.inl rfl) | exact Or.inr (Or.inr rfl)))) (ja_c (jc_sh je_int) ja_nil)))) je_int (nomark _))
    (jss_cons (js_asg (jc_sh (je_slice (je_cell (jc_dget hr.units (jl_var (i := 3) rfl (by first | exact Or.inl rfl | exact Or.inr (Or.inl rfl) | exact Or.inr (Or.inr rfl))) je_str (fun _ _ => rfl))) jp_none (jp_some je_int))) (jg_lst rfl (jgs_cons (jg_name (i := 11) sc.nd rfl (by first | exact Or.inl rfl | exact Or.inr rfl)) (jgs_cons (jg_name (i := 12) sc.nd rfl (by first | exact Or.inl rfl | exact Or.inr rfl)) jgs_nil))))
    (jss_one (js_for PassesOwn.never rfl (ji_any (je_cell (jc_dget hr.units (jl_var (i := 3) rfl (by first | exact Or.inl rfl | exact Or.inr (Or.inl rfl) | exact Or.inr (Or.inr rfl))) je_str (fun _ _ => rfl)))) (jg_name (i := 9) sc.nd rfl (by first | exact Or.inl rfl | exact Or.inr rfl))
    (jss_one (js_set (i := 4) sc.nd rfl (by first | exact Or.inl rfl | exact Or.inr rfl) (jc_sh (je_bin op_addA os_add (je_tup (ja_c (jc_sh (je_tup (ja_c (jc_sh je_str) (ja_c (jc_sh (je_var (i := 12) rfl (by first | exact Or.inl rfl | exact Or.inr (Or.inl rfl) | exact Or.inr (Or.inr rfl)))) (ja_c (jc_sh (je_var (i := 9) rfl (by first | exact Or.inl rfl | exact Or.inr (Or.inl rfl) | exact Or.inr (Or.inr rfl)))) ja_nil))))) (ja_c (jc_sh (je_tup (ja_c (jc_sh je_str) (ja_c (jc_sh (je_var (i := 11) rfl (by first | exact Or.inl rfl | exact Or.inr (Or.inl rfl) | exact Or.inr (Or.inr rfl)))) (ja_c (jc_sh (je_var (i := 11) rfl (by first | exact Or.inl rfl | exact Or.inr (Or.inl rfl) | exact Or.inr (Or.inr rfl)))) (ja_c (jc_sh (je_var (i := 12) rfl (by first | exact Or.inl rfl | exact Or.inr (Or.inl rfl) | exact Or.inr (Or.inr rfl)))) ja_nil)))))) ja_nil))) (je_var (i := 4) rfl (by first | exact Or.inl rfl | exact Or.inr (Or.inl rfl) | exact Or.inr (Or.inr rfl))))))))))
    jss_nil)
    (jss_cons (js_set (i := 5) sc.nd rfl (by first | exact Or.inl rfl | exact Or.inr rfl) (jc_lo (jl_new (jo_lst ja_nil))))
    (jss_cons (js_set (i := 6) sc.nd rfl (by first | exact Or.inl rfl | exact Or.inr rfl) (jc_lo (jl_new (jo_lst ja_nil))))
    (jss_cons (js_for PassesOwn.never rfl (ji_any (je_var (i := 4) rfl (by first | exact Or.inl rfl | exact Or.inr (Or.inl rfl) | exact Or.inr (Or.inr rfl)))) (jg_name (i := 7) sc.nd rfl (by first | exact Or.inl rfl | exact Or.inr rfl))
    (jss_cons (js_app (jl_var (i := 5) rfl (by first | exact Or.inl rfl | exact Or.inr (Or.inl rfl) | exact Or.inr (Or.inr rfl))) (jc_sh (je_ix (je_lst (ja_c (jc_sh je_int) (ja_c (jc_sh je_int) (ja_c (jc_sh je_int) (ja_c (jc_sh (je_cell (jc_call (ok__law_draw T) rfl (hr.mono (by decide)) (by rfl) T.g__law_draw T.F__law_draw.kp T.b__law_draw (ja_c (jc_lo (jl_var (i := 1) rfl (by first | exact Or.inl rfl | exact Or.inr (Or.inl rfl) | exact Or.inr (Or.inr rfl)))) (ja_c (jc_sh je_int) ja_nil))))) ja_nil))))) (je_cell (jc_call (ok__law_draw T) rfl (hr.mono (by decide)) (by rfl) T.g__law_draw T.F__law_draw.kp T.b__law_draw (ja_c (jc_lo (jl_var (i := 1) rfl (by first | exact Or.inl rfl | exact Or.inr (Or.inl rfl) | exact Or.inr (Or.inr rfl)))) (ja_c (jc_sh je_int) ja_nil)))) (fun _ _ => rfl))) (PE0 := (pe_bm PySem.F.plainAttrs_list PySem.F.slot_list_append PySem.F.type_list_append mt_append (jl_var (i := 5) rfl (by first | exact Or.inl rfl | exact Or.inr (Or.inl rfl) | exact Or.inr (Or.inr rfl))) (pa_cons (jc_sh (je_ix (je_lst (ja_c (jc_sh je_int) (ja_c (jc_sh je_int) (ja_c (jc_sh je_int) (ja_c (jc_sh (je_cell (jc_call (ok__law_draw T) rfl (hr.mono (by decide)) (by rfl) T.g__law_draw T.F__law_draw.kp T.b__law_draw (ja_c (jc_lo (jl_var (i := 1) rfl (by first | exact Or.inl rfl | exact Or.inr (Or.inl rfl) | exact Or.inr (Or.inr rfl)))) (ja_c (jc_sh je_int) ja_nil))))) ja_nil))))) (je_cell (jc_call (ok__law_draw T) rfl (hr.mono (by decide)) (by rfl) T.g__law_draw T.F__law_draw.kp T.b__law_draw (ja_c (jc_lo (jl_var (i := 1) rfl (by first | exact Or.inl rfl | exact Or.inr (Or.inl rfl) | exact Or.inr (Or.inr rfl)))) (ja_c (jc_sh je_int) ja_nil)))) (fun _ _ => rfl))) pa_nil))))
    (jss_cons (js_if (jt_cmp op_inA os_in (je_ix (je_var (i := 7) rfl (by first | exact Or.inl rfl | exact Or.inr (Or.inl rfl) | exact Or.inr (Or.inr rfl))) je_int (fun _ _ => rfl)) (je_tup (ja_c (jc_sh je_str) (ja_c (jc_sh je_str) ja_nil))) (by rfl))
    (jss_one (js_app (jl_var (i := 6) rfl (by first | exact Or.inl rfl | exact Or.inr (Or.inl rfl) | exact Or.inr (Or.inr rfl))) (jc_sh (je_cell (jc_ix (jc_lo (jl_var (i := 5) rfl (by first | exact Or.inl rfl | exact Or.inr (Or.inl rfl) | exact Or.inr (Or.inr rfl)))) (je_neg je_int) (fun _ _ => rfl)))) (PE0 := (pe_bm PySem.F.plainAttrs_list PySem.F.slot_list_append PySem.F.type_list_append mt_append (jl_var (i := 6) rfl (by first | exact Or.inl rfl | exact Or.inr (Or.inl rfl) | exact Or.inr (Or.inr rfl))) (pa_cons (jc_sh (je_cell (jc_ix (jc_lo (jl_var (i := 5) rfl (by first | exact Or.inl rfl | exact Or.inr (Or.inl rfl) | exact Or.inr (Or.inr rfl)))) (je_neg je_int) (fun _ _ => rfl)))) pa_nil)))))
    jss_nil)
    (jss_one (js_if (jt_cmp (op_eqA hr.units) os_eq (je_ix (je_var (i := 7) rfl (by first | exact Or.inl rfl | exact Or.inr (Or.inl rfl) | exact Or.inr (Or.inr rfl))) je_int (fun _ _ => rfl)) je_str (nomark _))
    (jss_one (js_setIx (jl_var (i := 5) rfl (by first | exact Or.inl rfl | exact Or.inr (Or.inl rfl) | exact Or.inr (Or.inr rfl))) (je_neg je_int) (jc_sh (je_ix (je_var (i := 7) rfl (by first | exact Or.inl rfl | exact Or.inr (Or.inl rfl) | exact Or.inr (Or.inr rfl))) je_int (fun _ _ => rfl)))))
    jss_nil)))))
    (jss_cons (js_for PassesOwn.never rfl (ji_any (je_lst (ja_c (jc_sh (je_callB call_lenA cs_len (by rfl) T.z_len (by decide +kernel) (ja_c (jc_sh (je_var (i := 4) rfl (by first | exact Or.inl rfl | exact Or.inr (Or.inl rfl) | exact Or.inr (Or.inr rfl)))) ja_nil))) (ja_c (jc_sh (je_bin op_addA os_add (je_callB call_lenA cs_len (by rfl) T.z_len (by decide +kernel) (ja_c (jc_sh (je_var (i := 4) rfl (by first | exact Or.inl rfl | exact Or.inr (Or.inl rfl) | exact Or.inr (Or.inr rfl)))) ja_nil)) je_int)) (ja_c (jc_sh je_int) (ja_c (jc_sh (je_cell (jc_call (ok__law_draw T) rfl (hr.mono (by decide)) (by rfl) T.g__law_draw T.F__law_draw.kp T.b__law_draw (ja_c (jc_lo (jl_var (i := 1) rfl (by first | exact Or.inl rfl | exact Or.inr (Or.inl rfl) | exact Or.inr (Or.inr rfl)))) (ja_c (jc_sh (je_bin op_addA os_add (je_callB call_lenA cs_len (by rfl) T.z_len (by decide +kernel) (ja_c (jc_sh (je_var (i := 4) rfl (by first | exact Or.inl rfl | exact Or.inr (Or.inl rfl) | exact Or.inr (Or.inr rfl)))) ja_nil)) je_int)) ja_nil))))) (ja_c (jc_sh (je_cell (jc_call (ok__law_draw T) rfl (hr.mono (by decide)) (by rfl) T.g__law_draw T.F__law_draw.kp T.b__law_draw (ja_c (jc_lo (jl_var (i := 1) rfl (by first | exact Or.inl rfl | exact Or.inr (Or.inl rfl) | exact Or.inr (Or.inr rfl)))) (ja_c (jc_sh (je_bin op_addA os_add (je_callB call_lenA cs_len (by rfl) T.z_len (by decide +kernel) (ja_c (jc_sh (je_var (i := 4) rfl (by first | exact Or.inl rfl | exact Or.inr (Or.inl rfl) | exact Or.inr (Or.inr rfl)))) ja_nil)) je_int)) ja_nil))))) (ja_c (jc_sh (je_callB call_lenA cs_len (by rfl) T.z_len (by decide +kernel) (ja_c (jc_sh (je_var (i := 4) rfl (by first | exact Or.inl rfl | exact Or.inr (Or.inl rfl) | exact Or.inr (Or.inr rfl)))) ja_nil))) ja_nil)))))))) (jg_name (i := 8) sc.nd rfl (by first | exact Or.inl rfl | exact Or.inr rfl))
    (jss_cons (js_set (i := 10) sc.nd rfl (by first | exact Or.inl rfl | exact Or.inr rfl) (jc_sh (je_cell (jc_call (ok_run T) rfl (hr.mono (by decide)) (by rfl) T.g_run T.F_run.kp T.b_run (ja_c (jc_sh (je_tup (ja_c (jc_sh (je_tup ja_nil)) (ja_c (jc_sh (je_var (i := 4) rfl (by first | exact Or.inl rfl | exact Or.inr (Or.inl rfl) | exact Or.inr (Or.inr rfl)))) ja_nil)))) (ja_c (jc_sh (je_tupOf (by rfl) T.z_tuple (by decide +kernel) (jc_lo (jl_var (i := 6) rfl (by first | exact Or.inl rfl | exact Or.inr (Or.inl rfl) | exact Or.inr (Or.inr rfl)))))) (ja_c (jc_sh (je_var (i := 8) rfl (by first | exact Or.inl rfl | exact Or.inr (Or.inl rfl) | exact Or.inr (Or.inr rfl)))) ja_nil)))))))
    (jss_one (js_if (PW.pt (jw_or (jt_not (jt_val (je_cell (jc_call ((ok_G39 T 14)) rfl (hr.mono (by decide)) (by rfl) T.g__law_formed T.F__law_formed.kp T.b__law_formed (ja_c (jc_sh (je_var (i := 10) rfl (by first | exact Or.inl rfl | exact Or.inr (Or.inl rfl) | exact Or.inr (Or.inr rfl)))) ja_nil))))) (jw_or1 (jt_cmp (op_neA hr.units) os_ne (je_var (i := 10) rfl (by first | exact Or.inl rfl | exact Or.inr (Or.inl rfl) | exact Or.inr (Or.inr rfl))) (je_cell (jc_call (ok__law_due T) rfl (hr.mono (by decide)) (by rfl) T.g__law_due T.F__law_due.kp T.b__law_due (ja_c (jc_sh (je_var (i := 4) rfl (by first | exact Or.inl rfl | exact Or.inr (Or.inl rfl) | exact Or.inr (Or.inr rfl)))) (ja_c (jc_lo (jl_var (i := 5) rfl (by first | exact Or.inl rfl | exact Or.inr (Or.inl rfl) | exact Or.inr (Or.inr rfl)))) (ja_c (jc_sh (je_var (i := 8) rfl (by first | exact Or.inl rfl | exact Or.inr (Or.inl rfl) | exact Or.inr (Or.inr rfl)))) ja_nil))))) (nomark _)))))
    (jss_one (js_ret (jc_sh je_bl)))
    jss_nil))))
    (jss_one (js_ret (jc_sh je_bl))))))))))))
end
end Ds.K10
namespace Ds.K10
open PySem PySem.Spec PyProof.Rows L2 Dn
theorem all_mk {l : PySem.W.OpenLaw} {w : World} {K : Frag} {h : Heap} {mg : Str → Option Value} {fa f0 f1 f2 f3 f4 f5 f6 f7 f8 f9 f10 f11 f12 f13 f14 f15 f16 f17 f18 f19 f20 f21 f22 f23 f24 f25 f26 f27 f28 f29 f30 f31 f32 f33 f34 f35 f36 f37 f38 f39 f40 f41 f42 : Addr} {C0 C1 : Addr} {od0 an0 : Option Addr} {sl0 : Array (Option Value)} {oc0 kV0 dc0 pm0 cd0 ct0 : Value} {od1 an1 : Option Addr} {sl1 : Array (Option Value)} {oc1 kV1 dc1 pm1 cd1 ct1 : Value} {od2 an2 : Option Addr} {sl2 : Array (Option Value)} {oc2 kV2 dc2 pm2 cd2 ct2 : Value} {od3 an3 : Option Addr} {sl3 : Array (Option Value)} {oc3 kV3 dc3 pm3 cd3 ct3 : Value} {od4 an4 : Option Addr} {sl4 : Array (Option Value)} {oc4 kV4 dc4 pm4 cd4 ct4 : Value} {od5 an5 : Option Addr} {sl5 : Array (Option Value)} {oc5 kV5 dc5 pm5 cd5 ct5 : Value} {od6 an6 : Option Addr} {sl6 : Array (Option Value)} {oc6 kV6 dc6 pm6 cd6 ct6 : Value} {od7 an7 : Option Addr} {sl7 : Array (Option Value)} {oc7 kV7 dc7 pm7 cd7 ct7 : Value} {od8 an8 : Option Addr} {sl8 : Array (Option Value)} {oc8 kV8 dc8 pm8 cd8 ct8 : Value} {od9 an9 : Option Addr} {sl9 : Array (Option Value)} {oc9 kV9 dc9 pm9 cd9 ct9 : Value} {od10 an10 : Option Addr} {sl10 : Array (Option Value)} {oc10 kV10 dc10 pm10 cd10 ct10 : Value} {od11 an11 : Option Addr} {sl11 : Array (Option Value)} {oc11 kV11 dc11 pm11 cd11 ct11 : Value} {od12 an12 : Option Addr} {sl12 : Array (Option Value)} {oc12 kV12 dc12 pm12 cd12 ct12 : Value} {od13 an13 : Option Addr} {sl13 : Array (Option Value)} {oc13 kV13 dc13 pm13 cd13 ct13 : Value} {od14 an14 : Option Addr} {sl14 : Array (Option Value)} {oc14 kV14 dc14 pm14 cd14 ct14 : Value} {od15 an15 : Option Addr} {sl15 : Array (Option Value)} {oc15 kV15 dc15 pm15 cd15 ct15 : Value} {od16 an16 : Option Addr} {sl16 : Array (Option Value)} {oc16 kV16 dc16 pm16 cd16 ct16 : Value} {od17 an17 : Option Addr} {sl17 : Array (Option Value)} {oc17 kV17 dc17 pm17 cd17 ct17 : Value} {od18 an18 : Option Addr} {sl18 : Array (Option Value)} {oc18 kV18 dc18 pm18 cd18 ct18 : Value} {od19 an19 : Option Addr} {sl19 : Array (Option Value)} {oc19 kV19 dc19 pm19 cd19 ct19 : Value} {od20 an20 : Option Addr} {sl20 : Array (Option Value)} {oc20 kV20 dc20 pm20 cd20 ct20 : Value} {od21 an21 : Option Addr} {sl21 : Array (Option Value)} {oc21 kV21 dc21 pm21 cd21 ct21 : Value} {od22 an22 : Option Addr} {sl22 : Array (Option Value)} {oc22 kV22 dc22 pm22 cd22 ct22 : Value} {od23 an23 : Option Addr} {sl23 : Array (Option Value)} {oc23 kV23 dc23 pm23 cd23 ct23 : Value} {od24 an24 : Option Addr} {sl24 : Array (Option Value)} {oc24 kV24 dc24 pm24 cd24 ct24 : Value} {od25 an25 : Option Addr} {sl25 : Array (Option Value)} {oc25 kV25 dc25 pm25 cd25 ct25 : Value} {od26 an26 : Option Addr} {sl26 : Array (Option Value)} {oc26 kV26 dc26 pm26 cd26 ct26 : Value} {od27 an27 : Option Addr} {sl27 : Array (Option Value)} {oc27 kV27 dc27 pm27 cd27 ct27 : Value} {od28 an28 : Option Addr} {sl28 : Array (Option Value)} {oc28 kV28 dc28 pm28 cd28 ct28 : Value} {od29 an29 : Option Addr} {sl29 : Array (Option Value)} {oc29 kV29 dc29 pm29 cd29 ct29 : Value} {od30 an30 : Option Addr} {sl30 : Array (Option Value)} {oc30 kV30 dc30 pm30 cd30 ct30 : Value} {od31 an31 : Option Addr} {sl31 : Array (Option Value)} {oc31 kV31 dc31 pm31 cd31 ct31 : Value} {od32 an32 : Option Addr} {sl32 : Array (Option Value)} {oc32 kV32 dc32 pm32 cd32 ct32 : Value} {od33 an33 : Option Addr} {sl33 : Array (Option Value)} {oc33 kV33 dc33 pm33 cd33 ct33 : Value} {od34 an34 : Option Addr} {sl34 : Array (Option Value)} {oc34 kV34 dc34 pm34 cd34 ct34 : Value} {od35 an35 : Option Addr} {sl35 : Array (Option Value)} {oc35 kV35 dc35 pm35 cd35 ct35 : Value} {od36 an36 : Option Addr} {sl36 : Array (Option Value)} {oc36 kV36 dc36 pm36 cd36 ct36 : Value} {od37 an37 : Option Addr} {sl37 : Array (Option Value)} {oc37 kV37 dc37 pm37 cd37 ct37 : Value} {od38 an38 : Option Addr} {sl38 : Array (Option Value)} {oc38 kV38 dc38 pm38 cd38 ct38 : Value} {od39 an39 : Option Addr} {sl39 : Array (Option Value)} {oc39 kV39 dc39 pm39 cd39 ct39 : Value} {od40 an40 : Option Addr} {sl40 : Array (Option Value)} {oc40 kV40 dc40 pm40 cd40 ct40 : Value} {od41 an41 : Option Addr} {sl41 : Array (Option Value)} {oc41 kV41 dc41 pm41 cd41 ct41 : Value} {od42 an42 : Option Addr} {sl42 : Array (Option Value)} {oc42 kV42 dc42 pm42 cd42 ct42 : Value} {tk0 : Tok} {tk1 : Tok} (X : K.In h) (G : h.Ns mainGlobals mg) (hfa : mg "law" = some (.ref fa))
    (a0 : PySem.W.nsIn K mainGlobals "first_name" = some (some (.ref f0)))
    (l0 : K.lookup f0 = some ⟨oc0, od0, .func (PySem.W.fnOf "first_name" "first_name" (defArgs s_first_name) (defBody s_first_name) (defScope s_first_name) .none kV0 dc0 pm0 an0 cd0 ct0), sl0⟩)
    (c0 : PySem.W.codeIn K cd0 "first_name" = true)
    (k0 : PySem.W.keepIn K (.ref f0) = true)
    (a1 : PySem.W.nsIn K mainGlobals "in_record" = some (some (.ref f1)))
    (l1 : K.lookup f1 = some ⟨oc1, od1, .func (PySem.W.fnOf "in_record" "in_record" (defArgs s_in_record) (defBody s_in_record) (defScope s_in_record) .none kV1 dc1 pm1 an1 cd1 ct1), sl1⟩)
    (c1 : PySem.W.codeIn K cd1 "in_record" = true)
    (k1 : PySem.W.keepIn K (.ref f1) = true)
    (a2 : PySem.W.nsIn K mainGlobals "rows_in" = some (some (.ref f2)))
    (l2 : K.lookup f2 = some ⟨oc2, od2, .func (PySem.W.fnOf "rows_in" "rows_in" (defArgs s_rows_in) (defBody s_rows_in) (defScope s_rows_in) .none kV2 dc2 pm2 an2 cd2 ct2), sl2⟩)
    (c2 : PySem.W.codeIn K cd2 "rows_in" = true)
    (k2 : PySem.W.keepIn K (.ref f2) = true)
    (a3 : PySem.W.nsIn K mainGlobals "def_of" = some (some (.ref f3)))
    (l3 : K.lookup f3 = some ⟨oc3, od3, .func (PySem.W.fnOf "def_of" "def_of" (defArgs s_def_of) (defBody s_def_of) (defScope s_def_of) .none kV3 dc3 pm3 an3 cd3 ct3), sl3⟩)
    (c3 : PySem.W.codeIn K cd3 "def_of" = true)
    (k3 : PySem.W.keepIn K (.ref f3) = true)
    (a4 : PySem.W.nsIn K mainGlobals "row_of" = some (some (.ref f4)))
    (l4 : K.lookup f4 = some ⟨oc4, od4, .func (PySem.W.fnOf "row_of" "row_of" (defArgs s_row_of) (defBody s_row_of) (defScope s_row_of) .none kV4 dc4 pm4 an4 cd4 ct4), sl4⟩)
    (c4 : PySem.W.codeIn K cd4 "row_of" = true)
    (k4 : PySem.W.keepIn K (.ref f4) = true)
    (a5 : PySem.W.nsIn K mainGlobals "words_along" = some (some (.ref f5)))
    (l5 : K.lookup f5 = some ⟨oc5, od5, .func (PySem.W.fnOf "words_along" "words_along" (defArgs s_words_along) (defBody s_words_along) (defScope s_words_along) .none kV5 dc5 pm5 an5 cd5 ct5), sl5⟩)
    (c5 : PySem.W.codeIn K cd5 "words_along" = true)
    (k5 : PySem.W.keepIn K (.ref f5) = true)
    (a6 : PySem.W.nsIn K mainGlobals "word_at" = some (some (.ref f6)))
    (l6 : K.lookup f6 = some ⟨oc6, od6, .func (PySem.W.fnOf "word_at" "word_at" (defArgs s_word_at) (defBody s_word_at) (defScope s_word_at) .none kV6 dc6 pm6 an6 cd6 ct6), sl6⟩)
    (c6 : PySem.W.codeIn K cd6 "word_at" = true)
    (k6 : PySem.W.keepIn K (.ref f6) = true)
    (a7 : PySem.W.nsIn K mainGlobals "behind" = some (some (.ref f7)))
    (l7 : K.lookup f7 = some ⟨oc7, od7, .func (PySem.W.fnOf "behind" "behind" (defArgs s_behind) (defBody s_behind) (defScope s_behind) .none kV7 dc7 pm7 an7 cd7 ct7), sl7⟩)
    (c7 : PySem.W.codeIn K cd7 "behind" = true)
    (k7 : PySem.W.keepIn K (.ref f7) = true)
    (a8 : PySem.W.nsIn K mainGlobals "first_place" = some (some (.ref f8)))
    (l8 : K.lookup f8 = some ⟨oc8, od8, .func (PySem.W.fnOf "first_place" "first_place" (defArgs s_first_place) (defBody s_first_place) (defScope s_first_place) .none kV8 dc8 pm8 an8 cd8 ct8), sl8⟩)
    (c8 : PySem.W.codeIn K cd8 "first_place" = true)
    (k8 : PySem.W.keepIn K (.ref f8) = true)
    (a9 : PySem.W.nsIn K mainGlobals "inside" = some (some (.ref f9)))
    (l9 : K.lookup f9 = some ⟨oc9, od9, .func (PySem.W.fnOf "inside" "inside" (defArgs s_inside) (defBody s_inside) (defScope s_inside) .none kV9 dc9 pm9 an9 cd9 ct9), sl9⟩)
    (c9 : PySem.W.codeIn K cd9 "inside" = true)
    (k9 : PySem.W.keepIn K (.ref f9) = true)
    (a10 : PySem.W.nsIn K mainGlobals "out_of" = some (some (.ref f10)))
    (l10 : K.lookup f10 = some ⟨oc10, od10, .func (PySem.W.fnOf "out_of" "out_of" (defArgs s_out_of) (defBody s_out_of) (defScope s_out_of) .none kV10 dc10 pm10 an10 cd10 ct10), sl10⟩)
    (c10 : PySem.W.codeIn K cd10 "out_of" = true)
    (k10 : PySem.W.keepIn K (.ref f10) = true)
    (a11 : PySem.W.nsIn K mainGlobals "is_answer" = some (some (.ref f11)))
    (l11 : K.lookup f11 = some ⟨oc11, od11, .func (PySem.W.fnOf "is_answer" "is_answer" (defArgs s_is_answer) (defBody s_is_answer) (defScope s_is_answer) .none kV11 dc11 pm11 an11 cd11 ct11), sl11⟩)
    (c11 : PySem.W.codeIn K cd11 "is_answer" = true)
    (k11 : PySem.W.keepIn K (.ref f11) = true)
    (a12 : PySem.W.nsIn K mainGlobals "both" = some (some (.ref f12)))
    (l12 : K.lookup f12 = some ⟨oc12, od12, .func (PySem.W.fnOf "both" "both" (defArgs s_both) (defBody s_both) (defScope s_both) .none kV12 dc12 pm12 an12 cd12 ct12), sl12⟩)
    (c12 : PySem.W.codeIn K cd12 "both" = true)
    (k12 : PySem.W.keepIn K (.ref f12) = true)
    (a13 : PySem.W.findIn K (.ref C0) "shown" = some (some (.ref f13)))
    (i13 : PySem.W.isFn K (.ref f13) = true)
    (l13 : K.lookup f13 = some ⟨oc13, od13, .func (PySem.W.fnOf "shown" "Frame.shown" (defArgs s_Frame_shown) (defBody s_Frame_shown) (defScope s_Frame_shown) .none kV13 dc13 pm13 an13 cd13 ct13), sl13⟩)
    (c13 : PySem.W.codeIn K cd13 "Frame.shown" = true)
    (k13 : PySem.W.keepIn K (.ref f13) = true)
    (a14 : PySem.W.findIn K (.ref C0) "__init__" = some (some (.ref f14)))
    (i14 : PySem.W.isFn K (.ref f14) = true)
    (l14 : K.lookup f14 = some ⟨oc14, od14, .func (PySem.W.fnOf "__init__" "Frame.__init__" (defArgs s_Frame___init__) (defBody s_Frame___init__) (defScope s_Frame___init__) .none kV14 dc14 pm14 an14 cd14 ct14), sl14⟩)
    (c14 : PySem.W.codeIn K cd14 "Frame.__init__" = true)
    (k14 : PySem.W.keepIn K (.ref f14) = true)
    (a15 : PySem.W.findIn K (.ref C0) "empty" = some (some (.ref f15)))
    (i15 : PySem.W.isFn K (.ref f15) = true)
    (l15 : K.lookup f15 = some ⟨oc15, od15, .func (PySem.W.fnOf "empty" "Frame.empty" (defArgs s_Frame_empty) (defBody s_Frame_empty) (defScope s_Frame_empty) .none kV15 dc15 pm15 an15 cd15 ct15), sl15⟩)
    (c15 : PySem.W.codeIn K cd15 "Frame.empty" = true)
    (k15 : PySem.W.keepIn K (.ref f15) = true)
    (a16 : PySem.W.findIn K (.ref C0) "kept_here" = some (some (.ref f16)))
    (i16 : PySem.W.isFn K (.ref f16) = true)
    (l16 : K.lookup f16 = some ⟨oc16, od16, .func (PySem.W.fnOf "kept_here" "Frame.kept_here" (defArgs s_Frame_kept_here) (defBody s_Frame_kept_here) (defScope s_Frame_kept_here) .none kV16 dc16 pm16 an16 cd16 ct16), sl16⟩)
    (c16 : PySem.W.codeIn K cd16 "Frame.kept_here" = true)
    (k16 : PySem.W.keepIn K (.ref f16) = true)
    (a17 : PySem.W.findIn K (.ref C0) "look" = some (some (.ref f17)))
    (i17 : PySem.W.isFn K (.ref f17) = true)
    (l17 : K.lookup f17 = some ⟨oc17, od17, .func (PySem.W.fnOf "look" "Frame.look" (defArgs s_Frame_look) (defBody s_Frame_look) (defScope s_Frame_look) .none kV17 dc17 pm17 an17 cd17 ct17), sl17⟩)
    (c17 : PySem.W.codeIn K cd17 "Frame.look" = true)
    (k17 : PySem.W.keepIn K (.ref f17) = true)
    (a18 : PySem.W.findIn K (.ref C0) "put" = some (some (.ref f18)))
    (i18 : PySem.W.isFn K (.ref f18) = true)
    (l18 : K.lookup f18 = some ⟨oc18, od18, .func (PySem.W.fnOf "put" "Frame.put" (defArgs s_Frame_put) (defBody s_Frame_put) (defScope s_Frame_put) .none kV18 dc18 pm18 an18 cd18 ct18), sl18⟩)
    (c18 : PySem.W.codeIn K cd18 "Frame.put" = true)
    (k18 : PySem.W.keepIn K (.ref f18) = true)
    (a19 : PySem.W.findIn K (.ref C1) "go_back" = some (some (.ref f19)))
    (i19 : PySem.W.isFn K (.ref f19) = true)
    (l19 : K.lookup f19 = some ⟨oc19, od19, .func (PySem.W.fnOf "go_back" "Run.go_back" (defArgs s_Run_go_back) (defBody s_Run_go_back) (defScope s_Run_go_back) .none kV19 dc19 pm19 an19 cd19 ct19), sl19⟩)
    (c19 : PySem.W.codeIn K cd19 "Run.go_back" = true)
    (k19 : PySem.W.keepIn K (.ref f19) = true)
    (a20 : PySem.W.findIn K (.ref C1) "come_to" = some (some (.ref f20)))
    (i20 : PySem.W.isFn K (.ref f20) = true)
    (l20 : K.lookup f20 = some ⟨oc20, od20, .func (PySem.W.fnOf "come_to" "Run.come_to" (defArgs s_Run_come_to) (defBody s_Run_come_to) (defScope s_Run_come_to) .none kV20 dc20 pm20 an20 cd20 ct20), sl20⟩)
    (c20 : PySem.W.codeIn K cd20 "Run.come_to" = true)
    (k20 : PySem.W.keepIn K (.ref f20) = true)
    (a21 : PySem.W.findIn K (.ref C1) "__init__" = some (some (.ref f21)))
    (i21 : PySem.W.isFn K (.ref f21) = true)
    (l21 : K.lookup f21 = some ⟨oc21, od21, .func (PySem.W.fnOf "__init__" "Run.__init__" (defArgs s_Run___init__) (defBody s_Run___init__) (defScope s_Run___init__) .none kV21 dc21 pm21 an21 cd21 ct21), sl21⟩)
    (c21 : PySem.W.codeIn K cd21 "Run.__init__" = true)
    (k21 : PySem.W.keepIn K (.ref f21) = true)
    (a22 : PySem.W.findIn K (.ref C1) "answer" = some (some (.ref f22)))
    (i22 : PySem.W.isFn K (.ref f22) = true)
    (l22 : K.lookup f22 = some ⟨oc22, od22, .func (PySem.W.fnOf "answer" "Run.answer" (defArgs s_Run_answer) (defBody s_Run_answer) (defScope s_Run_answer) .none kV22 dc22 pm22 an22 cd22 ct22), sl22⟩)
    (c22 : PySem.W.codeIn K cd22 "Run.answer" = true)
    (k22 : PySem.W.keepIn K (.ref f22) = true)
    (a23 : PySem.W.findIn K (.ref C1) "take_away" = some (some (.ref f23)))
    (i23 : PySem.W.isFn K (.ref f23) = true)
    (l23 : K.lookup f23 = some ⟨oc23, od23, .func (PySem.W.fnOf "take_away" "Run.take_away" (defArgs s_Run_take_away) (defBody s_Run_take_away) (defScope s_Run_take_away) .none kV23 dc23 pm23 an23 cd23 ct23), sl23⟩)
    (c23 : PySem.W.codeIn K cd23 "Run.take_away" = true)
    (k23 : PySem.W.keepIn K (.ref f23) = true)
    (a24 : PySem.W.findIn K (.ref C1) "change" = some (some (.ref f24)))
    (i24 : PySem.W.isFn K (.ref f24) = true)
    (l24 : K.lookup f24 = some ⟨oc24, od24, .func (PySem.W.fnOf "change" "Run.change" (defArgs s_Run_change) (defBody s_Run_change) (defScope s_Run_change) .none kV24 dc24 pm24 an24 cd24 ct24), sl24⟩)
    (c24 : PySem.W.codeIn K cd24 "Run.change" = true)
    (k24 : PySem.W.keepIn K (.ref f24) = true)
    (a25 : PySem.W.findIn K (.ref C1) "call" = some (some (.ref f25)))
    (i25 : PySem.W.isFn K (.ref f25) = true)
    (l25 : K.lookup f25 = some ⟨oc25, od25, .func (PySem.W.fnOf "call" "Run.call" (defArgs s_Run_call) (defBody s_Run_call) (defScope s_Run_call) .none kV25 dc25 pm25 an25 cd25 ct25), sl25⟩)
    (c25 : PySem.W.codeIn K cd25 "Run.call" = true)
    (k25 : PySem.W.keepIn K (.ref f25) = true)
    (a26 : PySem.W.findIn K (.ref C1) "fall" = some (some (.ref f26)))
    (i26 : PySem.W.isFn K (.ref f26) = true)
    (l26 : K.lookup f26 = some ⟨oc26, od26, .func (PySem.W.fnOf "fall" "Run.fall" (defArgs s_Run_fall) (defBody s_Run_fall) (defScope s_Run_fall) .none kV26 dc26 pm26 an26 cd26 ct26), sl26⟩)
    (c26 : PySem.W.codeIn K cd26 "Run.fall" = true)
    (k26 : PySem.W.keepIn K (.ref f26) = true)
    (a27 : PySem.W.findIn K (.ref C1) "lead" = some (some (.ref f27)))
    (i27 : PySem.W.isFn K (.ref f27) = true)
    (l27 : K.lookup f27 = some ⟨oc27, od27, .func (PySem.W.fnOf "lead" "Run.lead" (defArgs s_Run_lead) (defBody s_Run_lead) (defScope s_Run_lead) .none kV27 dc27 pm27 an27 cd27 ct27), sl27⟩)
    (c27 : PySem.W.codeIn K cd27 "Run.lead" = true)
    (k27 : PySem.W.keepIn K (.ref f27) = true)
    (a28 : PySem.W.findIn K (.ref C1) "step" = some (some (.ref f28)))
    (i28 : PySem.W.isFn K (.ref f28) = true)
    (l28 : K.lookup f28 = some ⟨oc28, od28, .func (PySem.W.fnOf "step" "Run.step" (defArgs s_Run_step) (defBody s_Run_step) (defScope s_Run_step) .none kV28 dc28 pm28 an28 cd28 ct28), sl28⟩)
    (c28 : PySem.W.codeIn K cd28 "Run.step" = true)
    (k28 : PySem.W.keepIn K (.ref f28) = true)
    (a29 : PySem.W.findIn K (.ref C1) "wants" = some (some (.ref f29)))
    (i29 : PySem.W.isFn K (.ref f29) = true)
    (l29 : K.lookup f29 = some ⟨oc29, od29, .func (PySem.W.fnOf "wants" "Run.wants" (defArgs s_Run_wants) (defBody s_Run_wants) (defScope s_Run_wants) .none kV29 dc29 pm29 an29 cd29 ct29), sl29⟩)
    (c29 : PySem.W.codeIn K cd29 "Run.wants" = true)
    (k29 : PySem.W.keepIn K (.ref f29) = true)
    (a30 : PySem.W.nsIn K mainGlobals "run" = some (some (.ref f30)))
    (l30 : K.lookup f30 = some ⟨oc30, od30, .func (PySem.W.fnOf "run" "run" (defArgs s_run) (defBody s_run) (defScope s_run) .none kV30 dc30 pm30 an30 cd30 ct30), sl30⟩)
    (c30 : PySem.W.codeIn K cd30 "run" = true)
    (k30 : PySem.W.keepIn K (.ref f30) = true)
    (a31 : PySem.W.nsIn K mainGlobals "_law_deck" = some (some (.ref f31)))
    (l31 : K.lookup f31 = some ⟨oc31, od31, .func (PySem.W.fnOf "_law_deck" "_law_deck" (defArgs s__law_deck) (defBody s__law_deck) (defScope s__law_deck) .none kV31 dc31 pm31 an31 cd31 ct31), sl31⟩)
    (c31 : PySem.W.codeIn K cd31 "_law_deck" = true)
    (k31 : PySem.W.keepIn K (.ref f31) = true)
    (a32 : PySem.W.nsIn K mainGlobals "_law_draw" = some (some (.ref f32)))
    (l32 : K.lookup f32 = some ⟨oc32, od32, .func (PySem.W.fnOf "_law_draw" "_law_draw" (defArgs s__law_draw) (defBody s__law_draw) (defScope s__law_draw) .none kV32 dc32 pm32 an32 cd32 ct32), sl32⟩)
    (c32 : PySem.W.codeIn K cd32 "_law_draw" = true)
    (k32 : PySem.W.keepIn K (.ref f32) = true)
    (a33 : PySem.W.nsIn K mainGlobals "_law_some" = some (some (.ref f33)))
    (l33 : K.lookup f33 = some ⟨oc33, od33, .func (PySem.W.fnOf "_law_some" "_law_some" (defArgs s__law_some) (defBody s__law_some) (defScope s__law_some) .none kV33 dc33 pm33 an33 cd33 ct33), sl33⟩)
    (c33 : PySem.W.codeIn K cd33 "_law_some" = true)
    (k33 : PySem.W.keepIn K (.ref f33) = true)
    (a34 : PySem.W.nsIn K mainGlobals "_law_names" = some (some (.ref f34)))
    (l34 : K.lookup f34 = some ⟨oc34, od34, .func (PySem.W.fnOf "_law_names" "_law_names" (defArgs s__law_names) (defBody s__law_names) (defScope s__law_names) .none kV34 dc34 pm34 an34 cd34 ct34), sl34⟩)
    (c34 : PySem.W.codeIn K cd34 "_law_names" = true)
    (k34 : PySem.W.keepIn K (.ref f34) = true)
    (a35 : PySem.W.nsIn K mainGlobals "_law_boxes" = some (some (.ref f35)))
    (l35 : K.lookup f35 = some ⟨oc35, od35, .func (PySem.W.fnOf "_law_boxes" "_law_boxes" (defArgs s__law_boxes) (defBody s__law_boxes) (defScope s__law_boxes) .none kV35 dc35 pm35 an35 cd35 ct35), sl35⟩)
    (c35 : PySem.W.codeIn K cd35 "_law_boxes" = true)
    (k35 : PySem.W.keepIn K (.ref f35) = true)
    (a36 : PySem.W.nsIn K mainGlobals "_law_one_of" = some (some (.ref f36)))
    (l36 : K.lookup f36 = some ⟨oc36, od36, .func (PySem.W.fnOf "_law_one_of" "_law_one_of" (defArgs s__law_one_of) (defBody s__law_one_of) (defScope s__law_one_of) .none kV36 dc36 pm36 an36 cd36 ct36), sl36⟩)
    (c36 : PySem.W.codeIn K cd36 "_law_one_of" = true)
    (k36 : PySem.W.keepIn K (.ref f36) = true)
    (a37 : PySem.W.nsIn K mainGlobals "_law_picked" = some (some (.ref f37)))
    (l37 : K.lookup f37 = some ⟨oc37, od37, .func (PySem.W.fnOf "_law_picked" "_law_picked" (defArgs s__law_picked) (defBody s__law_picked) (defScope s__law_picked) .none kV37 dc37 pm37 an37 cd37 ct37), sl37⟩)
    (c37 : PySem.W.codeIn K cd37 "_law_picked" = true)
    (k37 : PySem.W.keepIn K (.ref f37) = true)
    (a38 : PySem.W.nsIn K mainGlobals "_law_plain" = some (some (.ref f38)))
    (l38 : K.lookup f38 = some ⟨oc38, od38, .func (PySem.W.fnOf "_law_plain" "_law_plain" (defArgs s__law_plain) (defBody s__law_plain) (defScope s__law_plain) .none kV38 dc38 pm38 an38 cd38 ct38), sl38⟩)
    (c38 : PySem.W.codeIn K cd38 "_law_plain" = true)
    (k38 : PySem.W.keepIn K (.ref f38) = true)
    (a39 : PySem.W.nsIn K mainGlobals "_law_formed" = some (some (.ref f39)))
    (l39 : K.lookup f39 = some ⟨oc39, od39, .func (PySem.W.fnOf "_law_formed" "_law_formed" (defArgs s__law_formed) (defBody s__law_formed) (defScope s__law_formed) .none kV39 dc39 pm39 an39 cd39 ct39), sl39⟩)
    (c39 : PySem.W.codeIn K cd39 "_law_formed" = true)
    (k39 : PySem.W.keepIn K (.ref f39) = true)
    (a40 : PySem.W.nsIn K mainGlobals "_law_done" = some (some (.ref f40)))
    (l40 : K.lookup f40 = some ⟨oc40, od40, .func (PySem.W.fnOf "_law_done" "_law_done" (defArgs s__law_done) (defBody s__law_done) (defScope s__law_done) .none kV40 dc40 pm40 an40 cd40 ct40), sl40⟩)
    (c40 : PySem.W.codeIn K cd40 "_law_done" = true)
    (k40 : PySem.W.keepIn K (.ref f40) = true)
    (a41 : PySem.W.nsIn K mainGlobals "_law_due" = some (some (.ref f41)))
    (l41 : K.lookup f41 = some ⟨oc41, od41, .func (PySem.W.fnOf "_law_due" "_law_due" (defArgs s__law_due) (defBody s__law_due) (defScope s__law_due) .none kV41 dc41 pm41 an41 cd41 ct41), sl41⟩)
    (c41 : PySem.W.codeIn K cd41 "_law_due" = true)
    (k41 : PySem.W.keepIn K (.ref f41) = true)
    (a42 : PySem.W.nsIn K mainGlobals "law" = some (some (.ref f42)))
    (l42 : K.lookup f42 = some ⟨oc42, od42, .func (PySem.W.fnOf "law" "law" (defArgs s_law) (defBody s_law) (defScope s_law) .none kV42 dc42 pm42 an42 cd42 ct42), sl42⟩)
    (c42 : PySem.W.codeIn K cd42 "law" = true)
    (k42 : PySem.W.keepIn K (.ref f42) = true)
    (A0 : PySem.W.nsIn K mainGlobals "Frame" = some (some (.ref C0)))
    (pg0 : PySem.W.plainGet K C0 Str.empty = true)
    (hd0 : PySem.W.hasDictIn K C0 = true)
    (po0 : PySem.W.plainOver K C0 = true)
    (mk0 : PySem.W.makesIn K C0 = true)
    (kc0 : PySem.W.keepIn K (.ref C0) = true)
    (sa0 : PySem.W.findIn K (.ref C0) "__setattr__" = some (some (.builtin "object.__setattr__")))
    (na0_0 : PySem.W.findIn K (.ref C0) "called_at" = some none)
    (na0_1 : PySem.W.findIn K (.ref C0) "things" = some none)
    (A1 : PySem.W.nsIn K mainGlobals "Run" = some (some (.ref C1)))
    (pg1 : PySem.W.plainGet K C1 Str.empty = true)
    (hd1 : PySem.W.hasDictIn K C1 = true)
    (po1 : PySem.W.plainOver K C1 = true)
    (mk1 : PySem.W.makesIn K C1 = true)
    (kc1 : PySem.W.keepIn K (.ref C1) = true)
    (sa1 : PySem.W.findIn K (.ref C1) "__setattr__" = some (some (.builtin "object.__setattr__")))
    (na1_0 : PySem.W.findIn K (.ref C1) "frames" = some none)
    (na1_1 : PySem.W.findIn K (.ref C1) "given" = some none)
    (na1_2 : PySem.W.findIn K (.ref C1) "leavings" = some none)
    (na1_3 : PySem.W.findIn K (.ref C1) "numbers" = some none)
    (na1_4 : PySem.W.findIn K (.ref C1) "over_by" = some none)
    (na1_5 : PySem.W.findIn K (.ref C1) "place" = some none)
    (na1_6 : PySem.W.findIn K (.ref C1) "steps" = some none)
    (na1_7 : PySem.W.findIn K (.ref C1) "used" = some none)
    (na1_8 : PySem.W.findIn K (.ref C1) "whole" = some none)
    (z0 : PySem.W.nsIn K mainGlobals "bool" = some none)
    (z1 : PySem.W.nsIn K mainGlobals "enumerate" = some none)
    (z2 : PySem.W.nsIn K mainGlobals "int" = some none)
    (z3 : PySem.W.nsIn K mainGlobals "isinstance" = some none)
    (z4 : PySem.W.nsIn K mainGlobals "len" = some none)
    (z5 : PySem.W.nsIn K mainGlobals "list" = some none)
    (z6 : PySem.W.nsIn K mainGlobals "min" = some none)
    (z7 : PySem.W.nsIn K mainGlobals "range" = some none)
    (z8 : PySem.W.nsIn K mainGlobals "set" = some none)
    (z9 : PySem.W.nsIn K mainGlobals "sorted" = some none)
    (z10 : PySem.W.nsIn K mainGlobals "str" = some none)
    (z11 : PySem.W.nsIn K mainGlobals "sum" = some none)
    (z12 : PySem.W.nsIn K mainGlobals "tuple" = some none)
    (y0 : PySem.W.nsIn K mainGlobals "NUMBERS" = some (some (.int 10000 tk0)))
    (y1 : PySem.W.nsIn K mainGlobals "REST" = some (some (.int 10007 tk1))) :
    ∃ fd : FuncData, (∀ (s : Shared) (v : Value), BindsTo s fd ⟨[v], []⟩ [("_law_script", v)]) ∧ ∀ base : Heap, K.In base → base.Ns mainGlobals mg → FnOk l.prog w K mg base CX0 25 fa fd ["_law_script"] (spF K 1 f_law) := by
  have e := hfa.symm.trans (PySem.W.mg_of X G a42)
  cases e
  have F0 := fun_mk (st := s_first_name) l0 c0 k0
  have b0 := F0.binds (ps := ["box"]) fun _ _ _ _ _ _ us hl => match us, hl with | [_], _ => rfl
  have F1 := fun_mk (st := s_in_record) l1 c1 k1
  have b1 := F1.binds (ps := ["box", "name"]) fun _ _ _ _ _ _ us hl => match us, hl with | [_, _], _ => rfl
  have F2 := fun_mk (st := s_rows_in) l2 c2 k2
  have b2 := F2.binds (ps := ["word"]) fun _ _ _ _ _ _ us hl => match us, hl with | [_], _ => rfl
  have F3 := fun_mk (st := s_def_of) l3 c3 k3
  have b3 := F3.binds (ps := ["program", "name"]) fun _ _ _ _ _ _ us hl => match us, hl with | [_, _], _ => rfl
  have F4 := fun_mk (st := s_row_of) l4 c4 k4
  have b4 := F4.binds (ps := ["program", "name"]) fun _ _ _ _ _ _ us hl => match us, hl with | [_, _], _ => rfl
  have F5 := fun_mk (st := s_words_along) l5 c5 k5
  have b5 := F5.binds (ps := ["program", "place"]) fun _ _ _ _ _ _ us hl => match us, hl with | [_, _], _ => rfl
  have F6 := fun_mk (st := s_word_at) l6 c6 k6
  have b6 := F6.binds (ps := ["program", "place"]) fun _ _ _ _ _ _ us hl => match us, hl with | [_, _], _ => rfl
  have F7 := fun_mk (st := s_behind) l7 c7 k7
  have b7 := F7.binds (ps := ["program", "place"]) fun _ _ _ _ _ _ us hl => match us, hl with | [_, _], _ => rfl
  have F8 := fun_mk (st := s_first_place) l8 c8 k8
  have b8 := F8.binds (ps := ["program", "name"]) fun _ _ _ _ _ _ us hl => match us, hl with | [_, _], _ => rfl
  have F9 := fun_mk (st := s_inside) l9 c9 k9
  have b9 := F9.binds (ps := ["program", "place", "number"]) fun _ _ _ _ _ _ us hl => match us, hl with | [_, _, _], _ => rfl
  have F10 := fun_mk (st := s_out_of) l10 c10 k10
  have b10 := F10.binds (ps := ["program", "place", "n"]) fun _ _ _ _ _ _ us hl => match us, hl with | [_, _, _], _ => rfl
  have F11 := fun_mk (st := s_is_answer) l11 c11 k11
  have b11 := F11.binds (ps := ["thing", "many"]) fun _ _ _ _ _ _ us hl => match us, hl with | [_, _], _ => rfl
  have F12 := fun_mk (st := s_both) l12 c12 k12
  have b12 := F12.binds (ps := ["ones", "others"]) fun _ _ _ _ _ _ us hl => match us, hl with | [_, _], _ => rfl
  have F13 := fun_mk (st := s_Frame_shown) l13 c13 k13
  have b13 := F13.binds (ps := ["self"]) fun _ _ _ _ _ _ us hl => match us, hl with | [_], _ => rfl
  have F14 := fun_mk (st := s_Frame___init__) l14 c14 k14
  have b14 := F14.binds (ps := ["self", "called_at"]) fun _ _ _ _ _ _ us hl => match us, hl with | [_, _], _ => rfl
  have F15 := fun_mk (st := s_Frame_empty) l15 c15 k15
  have b15 := F15.binds (ps := ["self", "boxes"]) fun _ _ _ _ _ _ us hl => match us, hl with | [_, _], _ => rfl
  have F16 := fun_mk (st := s_Frame_kept_here) l16 c16 k16
  have b16 := F16.binds (ps := ["self", "place"]) fun _ _ _ _ _ _ us hl => match us, hl with | [_, _], _ => rfl
  have F17 := fun_mk (st := s_Frame_look) l17 c17 k17
  have b17 := F17.binds (ps := ["self", "box"]) fun _ _ _ _ _ _ us hl => match us, hl with | [_, _], _ => rfl
  have F18 := fun_mk (st := s_Frame_put) l18 c18 k18
  have b18 := F18.binds (ps := ["self", "box", "thing"]) fun _ _ _ _ _ _ us hl => match us, hl with | [_, _, _], _ => rfl
  have F19 := fun_mk (st := s_Run_go_back) l19 c19 k19
  have b19 := F19.binds (ps := ["self"]) fun _ _ _ _ _ _ us hl => match us, hl with | [_], _ => rfl
  have F20 := fun_mk (st := s_Run_come_to) l20 c20 k20
  have b20 := F20.binds (ps := ["self", "place"]) fun _ _ _ _ _ _ us hl => match us, hl with | [_, _], _ => rfl
  have F21 := fun_mk (st := s_Run___init__) l21 c21 k21
  have b21 := F21.binds (ps := ["self", "program", "answers"]) fun _ _ _ _ _ _ us hl => match us, hl with | [_, _, _], _ => rfl
  have F22 := fun_mk (st := s_Run_answer) l22 c22 k22
  have b22 := F22.binds (ps := ["self", "many"]) fun _ _ _ _ _ _ us hl => match us, hl with | [_, _], _ => rfl
  have F23 := fun_mk (st := s_Run_take_away) l23 c23 k23
  have b23 := F23.binds (ps := ["self", "frame", "word"]) fun _ _ _ _ _ _ us hl => match us, hl with | [_, _, _], _ => rfl
  have F24 := fun_mk (st := s_Run_change) l24 c24 k24
  have b24 := F24.binds (ps := ["self", "word"]) fun _ _ _ _ _ _ us hl => match us, hl with | [_, _], _ => rfl
  have F25 := fun_mk (st := s_Run_call) l25 c25 k25
  have b25 := F25.binds (ps := ["self", "word"]) fun _ _ _ _ _ _ us hl => match us, hl with | [_, _], _ => rfl
  have F26 := fun_mk (st := s_Run_fall) l26 c26 k26
  have b26 := F26.binds (ps := ["self", "fault"]) fun _ _ _ _ _ _ us hl => match us, hl with | [_, _], _ => rfl
  have F27 := fun_mk (st := s_Run_lead) l27 c27 k27
  have b27 := F27.binds (ps := ["self", "word"]) fun _ _ _ _ _ _ us hl => match us, hl with | [_, _], _ => rfl
  have F28 := fun_mk (st := s_Run_step) l28 c28 k28
  have b28 := F28.binds (ps := ["self"]) fun _ _ _ _ _ _ us hl => match us, hl with | [_], _ => rfl
  have F29 := fun_mk (st := s_Run_wants) l29 c29 k29
  have b29 := F29.binds (ps := ["self"]) fun _ _ _ _ _ _ us hl => match us, hl with | [_], _ => rfl
  have F30 := fun_mk (st := s_run) l30 c30 k30
  have b30 := F30.binds (ps := ["program", "answers", "most"]) fun _ _ _ _ _ _ us hl => match us, hl with | [_, _, _], _ => rfl
  have F31 := fun_mk (st := s__law_deck) l31 c31 k31
  have b31 := F31.binds (ps := ["_law_script"]) fun _ _ _ _ _ _ us hl => match us, hl with | [_], _ => rfl
  have F32 := fun_mk (st := s__law_draw) l32 c32 k32
  have b32 := F32.binds (ps := ["_law_deck_here", "_law_most"]) fun _ _ _ _ _ _ us hl => match us, hl with | [_, _], _ => rfl
  have F33 := fun_mk (st := s__law_some) l33 c33 k33
  have b33 := F33.binds (ps := ["_law_deck_here", "_law_few", "_law_most"]) fun _ _ _ _ _ _ us hl => match us, hl with | [_, _, _], _ => rfl
  have F34 := fun_mk (st := s__law_names) l34 c34 k34
  have b34 := F34.binds (ps := ["_law_deck_here", "_law_many"]) fun _ _ _ _ _ _ us hl => match us, hl with | [_, _], _ => rfl
  have F35 := fun_mk (st := s__law_boxes) l35 c35 k35
  have b35 := F35.binds (ps := ["_law_deck_here", "_law_names_here"]) fun _ _ _ _ _ _ us hl => match us, hl with | [_, _], _ => rfl
  have F36 := fun_mk (st := s__law_one_of) l36 c36 k36
  have b36 := F36.binds (ps := ["_law_deck_here", "_law_some_here"]) fun _ _ _ _ _ _ us hl => match us, hl with | [_, _], _ => rfl
  have F37 := fun_mk (st := s__law_picked) l37 c37 k37
  have b37 := F37.binds (ps := ["_law_deck_here", "_law_some_here", "_law_many"]) fun _ _ _ _ _ _ us hl => match us, hl with | [_, _, _], _ => rfl
  have F38 := fun_mk (st := s__law_plain) l38 c38 k38
  have b38 := F38.binds (ps := ["_law_deck_here", "_law_case"]) fun _ _ _ _ _ _ us hl => match us, hl with | [_, _], _ => rfl
  have F39 := fun_mk (st := s__law_formed) l39 c39 k39
  have b39 := F39.binds (ps := ["_law_found"]) fun _ _ _ _ _ _ us hl => match us, hl with | [_], _ => rfl
  have F40 := fun_mk (st := s__law_done) l40 c40 k40
  have b40 := F40.binds (ps := ["_law_things", "_law_word", "_law_number"]) fun _ _ _ _ _ _ us hl => match us, hl with | [_, _, _], _ => rfl
  have F41 := fun_mk (st := s__law_due) l41 c41 k41
  have b41 := F41.binds (ps := ["_law_row", "_law_numbers", "_law_most"]) fun _ _ _ _ _ _ us hl => match us, hl with | [_, _, _], _ => rfl
  have F42 := fun_mk (st := s_law) l42 c42 k42
  have b42 := F42.binds (ps := ["_law_script"]) fun _ _ _ _ _ _ us hl => match us, hl with | [_], _ => rfl
  have T : Tx w K mg := ⟨_, _, F0, b0, PySem.W.mg_of X G a0, _, _, F1, b1, PySem.W.mg_of X G a1, _, _, F2, b2, PySem.W.mg_of X G a2, _, _, F3, b3, PySem.W.mg_of X G a3, _, _, F4, b4, PySem.W.mg_of X G a4, _, _, F5, b5, PySem.W.mg_of X G a5, _, _, F6, b6, PySem.W.mg_of X G a6, _, _, F7, b7, PySem.W.mg_of X G a7, _, _, F8, b8, PySem.W.mg_of X G a8, _, _, F9, b9, PySem.W.mg_of X G a9, _, _, F10, b10, PySem.W.mg_of X G a10, _, _, F11, b11, PySem.W.mg_of X G a11, _, _, F12, b12, PySem.W.mg_of X G a12, _, _, F13, b13, _, _, F14, b14, _, _, F15, b15, _, _, F16, b16, _, _, F17, b17, _, _, F18, b18, _, _, F19, b19, _, _, F20, b20, _, _, F21, b21, _, _, F22, b22, _, _, F23, b23, _, _, F24, b24, _, _, F25, b25, _, _, F26, b26, _, _, F27, b27, _, _, F28, b28, _, _, F29, b29, _, _, F30, b30, PySem.W.mg_of X G a30, _, _, F31, b31, PySem.W.mg_of X G a31, _, _, F32, b32, PySem.W.mg_of X G a32, _, _, F33, b33, PySem.W.mg_of X G a33, _, _, F34, b34, PySem.W.mg_of X G a34, _, _, F35, b35, PySem.W.mg_of X G a35, _, _, F36, b36, PySem.W.mg_of X G a36, _, _, F37, b37, PySem.W.mg_of X G a37, _, _, F38, b38, PySem.W.mg_of X G a38, _, _, F39, b39, PySem.W.mg_of X G a39, _, _, F40, b40, PySem.W.mg_of X G a40, _, _, F41, b41, PySem.W.mg_of X G a41, _, _, F42, b42, PySem.W.mg_of X G a42, PySem.W.mg_none_of X G z0, PySem.W.mg_none_of X G z1, PySem.W.mg_none_of X G z2, PySem.W.mg_none_of X G z3, PySem.W.mg_none_of X G z4, PySem.W.mg_none_of X G z5, PySem.W.mg_none_of X G z6, PySem.W.mg_none_of X G z7, PySem.W.mg_none_of X G z8, PySem.W.mg_none_of X G z9, PySem.W.mg_none_of X G z10, PySem.W.mg_none_of X G z11, PySem.W.mg_none_of X G z12, _, (.int 10000), PySem.W.mg_of X G y0, ⟨_, rfl⟩, fun H => .int _, _, (.int 10007), PySem.W.mg_of X G y1, ⟨_, rfl⟩, fun H => .int _, _, clsA_of A0, ⟨pg0, hd0, po0, sa0⟩, PySem.W.mg_of X G A0, ⟨mk0, a14, i14, kc0⟩, ⟨a13, i13, k13⟩, ⟨a15, i15, k15⟩, ⟨a16, i16, k16⟩, ⟨a17, i17, k17⟩, ⟨a18, i18, k18⟩, na0_0, na0_1, _, clsA_of A1, ⟨pg1, hd1, po1, sa1⟩, PySem.W.mg_of X G A1, ⟨mk1, a21, i21, kc1⟩, ⟨a19, i19, k19⟩, ⟨a20, i20, k20⟩, ⟨a22, i22, k22⟩, ⟨a23, i23, k23⟩, ⟨a24, i24, k24⟩, ⟨a25, i25, k25⟩, ⟨a26, i26, k26⟩, ⟨a27, i27, k27⟩, ⟨a28, i28, k28⟩, ⟨a29, i29, k29⟩, na1_0, na1_1, na1_2, na1_3, na1_4, na1_5, na1_6, na1_7, na1_8⟩
  exact ⟨_, fun s v => .of_eq rfl, fun base _ _ => ok_law ⟨_, _, F0, b0, PySem.W.mg_of X G a0, _, _, F1, b1, PySem.W.mg_of X G a1, _, _, F2, b2, PySem.W.mg_of X G a2, _, _, F3, b3, PySem.W.mg_of X G a3, _, _, F4, b4, PySem.W.mg_of X G a4, _, _, F5, b5, PySem.W.mg_of X G a5, _, _, F6, b6, PySem.W.mg_of X G a6, _, _, F7, b7, PySem.W.mg_of X G a7, _, _, F8, b8, PySem.W.mg_of X G a8, _, _, F9, b9, PySem.W.mg_of X G a9, _, _, F10, b10, PySem.W.mg_of X G a10, _, _, F11, b11, PySem.W.mg_of X G a11, _, _, F12, b12, PySem.W.mg_of X G a12, _, _, F13, b13, _, _, F14, b14, _, _, F15, b15, _, _, F16, b16, _, _, F17, b17, _, _, F18, b18, _, _, F19, b19, _, _, F20, b20, _, _, F21, b21, _, _, F22, b22, _, _, F23, b23, _, _, F24, b24, _, _, F25, b25, _, _, F26, b26, _, _, F27, b27, _, _, F28, b28, _, _, F29, b29, _, _, F30, b30, PySem.W.mg_of X G a30, _, _, F31, b31, PySem.W.mg_of X G a31, _, _, F32, b32, PySem.W.mg_of X G a32, _, _, F33, b33, PySem.W.mg_of X G a33, _, _, F34, b34, PySem.W.mg_of X G a34, _, _, F35, b35, PySem.W.mg_of X G a35, _, _, F36, b36, PySem.W.mg_of X G a36, _, _, F37, b37, PySem.W.mg_of X G a37, _, _, F38, b38, PySem.W.mg_of X G a38, _, _, F39, b39, PySem.W.mg_of X G a39, _, _, F40, b40, PySem.W.mg_of X G a40, _, _, F41, b41, PySem.W.mg_of X G a41, _, _, F42, b42, PySem.W.mg_of X G a42, PySem.W.mg_none_of X G z0, PySem.W.mg_none_of X G z1, PySem.W.mg_none_of X G z2, PySem.W.mg_none_of X G z3, PySem.W.mg_none_of X G z4, PySem.W.mg_none_of X G z5, PySem.W.mg_none_of X G z6, PySem.W.mg_none_of X G z7, PySem.W.mg_none_of X G z8, PySem.W.mg_none_of X G z9, PySem.W.mg_none_of X G z10, PySem.W.mg_none_of X G z11, PySem.W.mg_none_of X G z12, _, (.int 10000), PySem.W.mg_of X G y0, ⟨_, rfl⟩, fun H => .int _, _, (.int 10007), PySem.W.mg_of X G y1, ⟨_, rfl⟩, fun H => .int _, _, clsA_of A0, ⟨pg0, hd0, po0, sa0⟩, PySem.W.mg_of X G A0, ⟨mk0, a14, i14, kc0⟩, ⟨a13, i13, k13⟩, ⟨a15, i15, k15⟩, ⟨a16, i16, k16⟩, ⟨a17, i17, k17⟩, ⟨a18, i18, k18⟩, na0_0, na0_1, _, clsA_of A1, ⟨pg1, hd1, po1, sa1⟩, PySem.W.mg_of X G A1, ⟨mk1, a21, i21, kc1⟩, ⟨a19, i19, k19⟩, ⟨a20, i20, k20⟩, ⟨a22, i22, k22⟩, ⟨a23, i23, k23⟩, ⟨a24, i24, k24⟩, ⟨a25, i25, k25⟩, ⟨a26, i26, k26⟩, ⟨a27, i27, k27⟩, ⟨a28, i28, k28⟩, ⟨a29, i29, k29⟩, na1_0, na1_1, na1_2, na1_3, na1_4, na1_5, na1_6, na1_7, na1_8⟩⟩
theorem sp_law (hg : Good) {K : Frag} {H : Hp} {a : Addr} {ns : List Int} (hl : ns.length ≤ 63) (hS : SqL K H a (ns.map V.int)) : spF K 1 f_law [.ref a] H (fun v _ => v = .bl true) fun _ _ _ => False := by
  obtain ⟨δ, hδ⟩ := hg ns hl
  refine ⟨rfl, fun _ => none, ⟨[], H⟩, [.sh (.list (ns.map PyData.int))], [], ?_, .cons (.sh (.lst hS (Rps.of_ints ns))) .nil, ?_⟩
  · exact {
      ex := Ex.refl H
      fg := fun a o q => nomatch q
      len := rfl
      rl := rfl
      sl := fun i c q _ => by simp at q
      ob := fun i c q _ => by simp at q
      nd := List.nodup_nil
      al := fun a ha => by simp at ha
      nt := fun a xs _ => ⟨by simp, rfl⟩
      gx := fun a fs q => nomatch q
      fz := fun l o q _ => by simp at q }
  · rw [hδ]
    intro g' H' e r v rv
    cases rv with
    | sh h =>
      cases h
      rfl
end Ds.K10
open PySem PySem.W PyProof.Rows
set_option maxHeartbeats 0 in
theorem PySem.Challenge.cw_wipeways_k10_words_one_by_one_holds : PySem.Challenge.rw_wipeways_k10_words_one_by_one.Holds := by
  w_on; o_law; k_head; (case hw => w_witness2)
  k_fill
  refine L2.walk_of (l := PySem.Challenge.rw_wipeways_k10_words_one_by_one) (n := 63) (k := 25) (x := "_law_script") (CX := fun _ => L2.CX0) (sp := fun w => Ds.spF _ 1 Ds.K10.f_law) rfl (by decide) rfl ⟨rfl, by decide, by decide⟩ (fun w h Y => PySem.W.kIn_of Y) ?F (fun _ _ a ns hl _ hS => Ds.K10.sp_law Ds.K10.good hl hS) (fun _ _ _ _ _ h => h)
  case F =>
    intro w mg fa h KX G hmg
    refine' Ds.K10.all_mk KX G hmg ?a0 ?l0 ?c0 ?k0 ?a1 ?l1 ?c1 ?k1 ?a2 ?l2 ?c2 ?k2 ?a3 ?l3 ?c3 ?k3 ?a4 ?l4 ?c4 ?k4 ?a5 ?l5 ?c5 ?k5 ?a6 ?l6 ?c6 ?k6 ?a7 ?l7 ?c7 ?k7 ?a8 ?l8 ?c8 ?k8 ?a9 ?l9 ?c9 ?k9 ?a10 ?l10 ?c10 ?k10 ?a11 ?l11 ?c11 ?k11 ?a12 ?l12 ?c12 ?k12 ?a13 ?i13 ?l13 ?c13 ?k13 ?a14 ?i14 ?l14 ?c14 ?k14 ?a15 ?i15 ?l15 ?c15 ?k15 ?a16 ?i16 ?l16 ?c16 ?k16 ?a17 ?i17 ?l17 ?c17 ?k17 ?a18 ?i18 ?l18 ?c18 ?k18 ?a19 ?i19 ?l19 ?c19 ?k19 ?a20 ?i20 ?l20 ?c20 ?k20 ?a21 ?i21 ?l21 ?c21 ?k21 ?a22 ?i22 ?l22 ?c22 ?k22 ?a23 ?i23 ?l23 ?c23 ?k23 ?a24 ?i24 ?l24 ?c24 ?k24 ?a25 ?i25 ?l25 ?c25 ?k25 ?a26 ?i26 ?l26 ?c26 ?k26 ?a27 ?i27 ?l27 ?c27 ?k27 ?a28 ?i28 ?l28 ?c28 ?k28 ?a29 ?i29 ?l29 ?c29 ?k29 ?a30 ?l30 ?c30 ?k30 ?a31 ?l31 ?c31 ?k31 ?a32 ?l32 ?c32 ?k32 ?a33 ?l33 ?c33 ?k33 ?a34 ?l34 ?c34 ?k34 ?a35 ?l35 ?c35 ?k35 ?a36 ?l36 ?c36 ?k36 ?a37 ?l37 ?c37 ?k37 ?a38 ?l38 ?c38 ?k38 ?a39 ?l39 ?c39 ?k39 ?a40 ?l40 ?c40 ?k40 ?a41 ?l41 ?c41 ?k41 ?a42 ?l42 ?c42 ?k42 ?A0 ?pg0 ?hd0 ?po0 ?mk0 ?kc0 ?sa0 ?na0_0 ?na0_1 ?A1 ?pg1 ?hd1 ?po1 ?mk1 ?kc1 ?sa1 ?na1_0 ?na1_1 ?na1_2 ?na1_3 ?na1_4 ?na1_5 ?na1_6 ?na1_7 ?na1_8 ?z0 ?z1 ?z2 ?z3 ?z4 ?z5 ?z6 ?z7 ?z8 ?z9 ?z10 ?z11 ?z12 ?y0 ?y1
    (case A0 => k_is)
    (case A1 => k_is)
    (case a0 => k_is)
    (case l0 => k_is)
    (case c0 => k_is)
    (case k0 => k_is)
    (case a1 => k_is)
    (case l1 => k_is)
    (case c1 => k_is)
    (case k1 => k_is)
    (case a2 => k_is)
    (case l2 => k_is)
    (case c2 => k_is)
    (case k2 => k_is)
    (case a3 => k_is)
    (case l3 => k_is)
    (case c3 => k_is)
    (case k3 => k_is)
    (case a4 => k_is)
    (case l4 => k_is)
    (case c4 => k_is)
    (case k4 => k_is)
    (case a5 => k_is)
    (case l5 => k_is)
    (case c5 => k_is)
    (case k5 => k_is)
    (case a6 => k_is)
    (case l6 => k_is)
    (case c6 => k_is)
    (case k6 => k_is)
    (case a7 => k_is)
    (case l7 => k_is)
    (case c7 => k_is)
    (case k7 => k_is)
    (case a8 => k_is)
    (case l8 => k_is)
    (case c8 => k_is)
    (case k8 => k_is)
    (case a9 => k_is)
    (case l9 => k_is)
    (case c9 => k_is)
    (case k9 => k_is)
    (case a10 => k_is)
    (case l10 => k_is)
    (case c10 => k_is)
    (case k10 => k_is)
    (case a11 => k_is)
    (case l11 => k_is)
    (case c11 => k_is)
    (case k11 => k_is)
    (case a12 => k_is)
    (case l12 => k_is)
    (case c12 => k_is)
    (case k12 => k_is)
    (case a13 => k_is)
    (case i13 => k_is)
    (case l13 => k_is)
    (case c13 => k_is)
    (case k13 => k_is)
    (case a14 => k_is)
    (case i14 => k_is)
    (case l14 => k_is)
    (case c14 => k_is)
    (case k14 => k_is)
    (case a15 => k_is)
    (case i15 => k_is)
    (case l15 => k_is)
    (case c15 => k_is)
    (case k15 => k_is)
    (case a16 => k_is)
    (case i16 => k_is)
    (case l16 => k_is)
    (case c16 => k_is)
    (case k16 => k_is)
    (case a17 => k_is)
    (case i17 => k_is)
    (case l17 => k_is)
    (case c17 => k_is)
    (case k17 => k_is)
    (case a18 => k_is)
    (case i18 => k_is)
    (case l18 => k_is)
    (case c18 => k_is)
    (case k18 => k_is)
    (case a19 => k_is)
    (case i19 => k_is)
    (case l19 => k_is)
    (case c19 => k_is)
    (case k19 => k_is)
    (case a20 => k_is)
    (case i20 => k_is)
    (case l20 => k_is)
    (case c20 => k_is)
    (case k20 => k_is)
    (case a21 => k_is)
    (case i21 => k_is)
    (case l21 => k_is)
    (case c21 => k_is)
    (case k21 => k_is)
    (case a22 => k_is)
    (case i22 => k_is)
    (case l22 => k_is)
    (case c22 => k_is)
    (case k22 => k_is)
    (case a23 => k_is)
    (case i23 => k_is)
    (case l23 => k_is)
    (case c23 => k_is)
    (case k23 => k_is)
    (case a24 => k_is)
    (case i24 => k_is)
    (case l24 => k_is)
    (case c24 => k_is)
    (case k24 => k_is)
    (case a25 => k_is)
    (case i25 => k_is)
    (case l25 => k_is)
    (case c25 => k_is)
    (case k25 => k_is)
    (case a26 => k_is)
    (case i26 => k_is)
    (case l26 => k_is)
    (case c26 => k_is)
    (case k26 => k_is)
    (case a27 => k_is)
    (case i27 => k_is)
    (case l27 => k_is)
    (case c27 => k_is)
    (case k27 => k_is)
    (case a28 => k_is)
    (case i28 => k_is)
    (case l28 => k_is)
    (case c28 => k_is)
    (case k28 => k_is)
    (case a29 => k_is)
    (case i29 => k_is)
    (case l29 => k_is)
    (case c29 => k_is)
    (case k29 => k_is)
    (case a30 => k_is)
    (case l30 => k_is)
    (case c30 => k_is)
    (case k30 => k_is)
    (case a31 => k_is)
    (case l31 => k_is)
    (case c31 => k_is)
    (case k31 => k_is)
    (case a32 => k_is)
    (case l32 => k_is)
    (case c32 => k_is)
    (case k32 => k_is)
    (case a33 => k_is)
    (case l33 => k_is)
    (case c33 => k_is)
    (case k33 => k_is)
    (case a34 => k_is)
    (case l34 => k_is)
    (case c34 => k_is)
    (case k34 => k_is)
    (case a35 => k_is)
    (case l35 => k_is)
    (case c35 => k_is)
    (case k35 => k_is)
    (case a36 => k_is)
    (case l36 => k_is)
    (case c36 => k_is)
    (case k36 => k_is)
    (case a37 => k_is)
    (case l37 => k_is)
    (case c37 => k_is)
    (case k37 => k_is)
    (case a38 => k_is)
    (case l38 => k_is)
    (case c38 => k_is)
    (case k38 => k_is)
    (case a39 => k_is)
    (case l39 => k_is)
    (case c39 => k_is)
    (case k39 => k_is)
    (case a40 => k_is)
    (case l40 => k_is)
    (case c40 => k_is)
    (case k40 => k_is)
    (case a41 => k_is)
    (case l41 => k_is)
    (case c41 => k_is)
    (case k41 => k_is)
    (case a42 => k_is)
    (case l42 => k_is)
    (case c42 => k_is)
    (case k42 => k_is)
    (case pg0 => k_is)
    (case hd0 => k_is)
    (case po0 => k_is)
    (case mk0 => k_is)
    (case kc0 => k_is)
    (case sa0 => k_is)
    (case na0_0 => k_is)
    (case na0_1 => k_is)
    (case pg1 => k_is)
    (case hd1 => k_is)
    (case po1 => k_is)
    (case mk1 => k_is)
    (case kc1 => k_is)
    (case sa1 => k_is)
    (case na1_0 => k_is)
    (case na1_1 => k_is)
    (case na1_2 => k_is)
    (case na1_3 => k_is)
    (case na1_4 => k_is)
    (case na1_5 => k_is)
    (case na1_6 => k_is)
    (case na1_7 => k_is)
    (case na1_8 => k_is)
    (case z0 => k_is)
    (case z1 => k_is)
    (case z2 => k_is)
    (case z3 => k_is)
    (case z4 => k_is)
    (case z5 => k_is)
    (case z6 => k_is)
    (case z7 => k_is)
    (case z8 => k_is)
    (case z9 => k_is)
    (case z10 => k_is)
    (case z11 => k_is)
    (case z12 => k_is)
    (case y0 => k_is)
    (case y1 => k_is)
