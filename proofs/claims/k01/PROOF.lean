import PyProof.Rows.All
import Wide.All
import OpenK.AllK
import Wide.FinOn
import HandS.ForMost
import HandS.TupAny
import HandS.TupLe
import HandS.IsInst
import HandS.Zip
import HandS.NoneIn
import PySem.Challenge.RW_wipeways_k01_names_and_boxes
set_option Elab.async false
set_option linter.all false
set_option maxRecDepth 100000
set_option maxHeartbeats 4000000
namespace Dn
open PySem PySem.Spec PyProof.Rows L2

abbrev D := PyData
abbrev Frag := PySem.W.Frag

def Ex (H H' : Hp) : Prop := ∀ a o, H a = some o → H' a = some o
theorem Ex.refl (H : Hp) : Ex H H := fun _ _ h => h
theorem Ex.trans {H H1 H2 : Hp} (a : Ex H H1) (b : Ex H1 H2) : Ex H H2 := fun x o h => b x o (a x o h)
theorem ex_new {H : Hp} {p : Addr} {o : HO} (h : H p = none) : Ex H (upd H p o) := fun a u e => by
  by_cases hap : a = p
  · subst hap; rw [h] at e; cases e
  · rw [upd_ne hap]; exact e
theorem rd_ex {H H' : Hp} {a : Addr} {u : HO} (e : Ex H H') (h : Rd H a u) : Rd H' a u := by
  rcases h with h | ⟨o, h⟩
  · exact .inl (e a _ h)
  · exact .inr ⟨o, e a _ h⟩
theorem sqT_ex {K : Frag} {H H' : Hp} {a : Addr} {xs : List V} (e : Ex H H') (h : SqT K H a xs) : SqT K H' a xs := by
  rcases h with h | h
  · exact .inl (rd_ex e h)
  · exact .inr h
theorem sqL_ex {K : Frag} {H H' : Hp} {a : Addr} {xs : List V} (e : Ex H H') (h : SqL K H a xs) : SqL K H' a xs := by
  rcases h with h | h
  · exact .inl (rd_ex e h)
  · exact .inr h

mutual
inductive Rp (K : Frag) (H : Hp) : V → D → Prop where
  | non : Rp K H .non .none
  | bl (b : Bool) : Rp K H (.bl b) (.bool b)
  | int (i : Int) : Rp K H (.int i) (.int i)
  | str (x : Str) : Rp K H (.str x) (.str x)
  | lst {a : Addr} {xs : List V} {ds : List D} : SqL K H a xs → Rps K H xs ds → Rp K H (.ref a) (.list ds)
  | tup {a : Addr} {xs : List V} {ds : List D} : SqT K H a xs → Rps K H xs ds → Rp K H (.ref a) (.tuple ds)
inductive Rps (K : Frag) (H : Hp) : List V → List D → Prop where
  | nil : Rps K H [] []
  | cons {v : V} {vs : List V} {d : D} {ds : List D} : Rp K H v d → Rps K H vs ds → Rps K H (v :: vs) (d :: ds)
end
section
variable {K : Frag} {H H' : Hp}
mutual
theorem Rp.ex (e : Ex H H') : ∀ {v : V} {d : D}, Rp K H v d → Rp K H' v d
  | _, _, .non => .non
  | _, _, .bl b => .bl b
  | _, _, .int i => .int i
  | _, _, .str x => .str x
  | _, _, .lst h t => .lst (sqL_ex e h) (Rps.ex e t)
  | _, _, .tup h t => .tup (sqT_ex e h) (Rps.ex e t)
theorem Rps.ex (e : Ex H H') : ∀ {vs : List V} {ds : List D}, Rps K H vs ds → Rps K H' vs ds
  | _, _, .nil => .nil
  | _, _, .cons h t => .cons (Rp.ex e h) (Rps.ex e t)
end
mutual
theorem Rp.dp : ∀ {v : V} {d : D}, Rp K H v d → Dp K H v d
  | _, _, .non => .non
  | _, _, .bl b => .bl b
  | _, _, .int i => .int i
  | _, _, .str x => .str x
  | _, _, .lst h t => .lst h (Rps.dp t)
  | _, _, .tup h t => .tup h (Rps.dp t)
theorem Rps.dp : ∀ {vs : List V} {ds : List D}, Rps K H vs ds → DpAll K H vs ds
  | _, _, .nil => .nil
  | _, _, .cons h t => .cons (Rp.dp h) (Rps.dp t)
end
theorem Rps.length : ∀ {vs : List V} {ds : List D}, Rps K H vs ds → vs.length = ds.length
  | _, _, .nil => rfl
  | _, _, .cons _ t => by rw [List.length_cons, List.length_cons, Rps.length t]
theorem Rps.get : ∀ {vs : List V} {ds : List D} {i : Nat} {d : D}, Rps K H vs ds → ds[i]? = some d → ∃ v, vs[i]? = some v ∧ Rp K H v d
  | _, _, i, d, .nil, e => by simp at e
  | _, _, 0, d, .cons h _, e => by simp at e; subst e; exact ⟨_, rfl, h⟩
  | _, _, i + 1, d, .cons _ t, e => by
    obtain ⟨v, h1, h2⟩ := Rps.get (i := i) t (by simpa using e)
    exact ⟨v, by simpa using h1, h2⟩
theorem Rps.append : ∀ {vs ws : List V} {ds es : List D}, Rps K H vs ds → Rps K H ws es → Rps K H (vs ++ ws) (ds ++ es)
  | _, _, _, _, .nil, s => s
  | _, _, _, _, .cons h t, s => .cons h (Rps.append t s)
theorem Rps.snoc {vs : List V} {ds : List D} {v : V} {d : D} (h : Rps K H vs ds) (r : Rp K H v d) : Rps K H (vs ++ [v]) (ds ++ [d]) := h.append (.cons r .nil)
theorem Rps.take : ∀ {vs : List V} {ds : List D} (n : Nat), Rps K H vs ds → Rps K H (vs.take n) (ds.take n)
  | _, _, 0, _ => .nil
  | _, _, _ + 1, .nil => .nil
  | _, _, n + 1, .cons h t => .cons h (Rps.take n t)
theorem Rps.drop : ∀ {vs : List V} {ds : List D} (n : Nat), Rps K H vs ds → Rps K H (vs.drop n) (ds.drop n)
  | _, _, 0, h => h
  | _, _, _ + 1, .nil => .nil
  | _, _, n + 1, .cons _ t => Rps.drop n t
theorem Rps.set {v : V} {d : D} (r : Rp K H v d) : ∀ {vs : List V} {ds : List D} (i : Nat), Rps K H vs ds → Rps K H (vs.set i v) (ds.set i d)
  | _, _, _, .nil => .nil
  | _, _, 0, .cons _ t => .cons r t
  | _, _, i + 1, .cons h t => .cons h (Rps.set r i t)
theorem Rps.rev {vs : List V} {ds : List D} (h : Rps K H vs ds) : Rps K H vs.reverse ds.reverse := by
  induction vs generalizing ds with
  | nil => cases h; exact .nil
  | cons v vs ih =>
    cases h with
    | cons r t => rw [List.reverse_cons, List.reverse_cons]; exact (ih t).append (.cons r .nil)
theorem Rps.erase : ∀ {vs : List V} {ds : List D} (i : Nat), Rps K H vs ds → Rps K H (vs.eraseIdx i) (ds.eraseIdx i)
  | _, _, _, .nil => .nil
  | _, _, 0, .cons _ t => t
  | _, _, i + 1, .cons h t => .cons h (Rps.erase i t)
theorem Rps.ints : ∀ {vs : List V} {ns : List Int}, Rps K H vs (ns.map PyData.int) → vs = ns.map V.int
  | _, [], .nil => rfl
  | _, n :: ns, .cons h t => by
    cases h
    rw [List.map_cons, Rps.ints t]
theorem Rps.of_ints : ∀ (ns : List Int), Rps K H (ns.map V.int) (ns.map PyData.int)
  | [] => .nil
  | n :: ns => .cons (.int n) (Rps.of_ints ns)
theorem Rps.strs : ∀ {vs : List V} {ns : List Str}, Rps K H vs (ns.map PyData.str) → vs = ns.map V.str
  | _, [], .nil => rfl
  | _, n :: ns, .cons h t => by
    cases h
    rw [List.map_cons, Rps.strs t]
theorem Rps.of_strs : ∀ (ns : List Str), Rps K H (ns.map V.str) (ns.map PyData.str)
  | [] => .nil
  | n :: ns => .cons (.str n) (Rps.of_strs ns)
theorem Rps.bls : ∀ {vs : List V} {ns : List Bool}, Rps K H vs (ns.map PyData.bool) → vs = ns.map V.bl
  | _, [], .nil => rfl
  | _, n :: ns, .cons h t => by
    cases h
    rw [List.map_cons, Rps.bls t]
end

inductive Sl where
  | no
  | sh (d : D)
  | ow (xs : List D)
abbrev Env := List Sl
def Sl.own : Sl → Bool
  | .ow _ => true
  | _ => false
structure Exn where
  cls : Str
  num : Option Int
inductive Res (α : Type) where
  | ok (a : α) (e : Env)
  | exc (x : Exn) (e : Env)
  | bad
abbrev M (α : Type) := Env → Res α
def mPure {α : Type} (a : α) : M α := fun e => .ok a e
def mBind {α β : Type} (m : M α) (f : α → M β) : M β := fun e => match m e with
  | .ok a e' => f a e'
  | .exc x e' => .exc x e'
  | .bad => .bad
def mOpt {α : Type} (o : Option α) : M α := fun e => match o with
  | some a => .ok a e
  | none => .bad
def OwR (K : Frag) (Hs : Hp) : Sl → HO → Prop
  | .ow xs, .lst vs => Rps K Hs vs xs
  | _, _ => False
theorem OwR.ex {K : Frag} {H H' : Hp} (e : Ex H H') : ∀ {s : Sl} {o : HO}, OwR K H s o → OwR K H' s o := fun {s o} h => by
  cases s with
  | ow xs =>
    cases o with
    | lst vs => exact Rps.ex e h
    | _ => exact h
  | _ => exact h

/-- pn: the slots that hold a caller's own lists (they stay); G: what others hold -/
structure Wd where
  pn : List (Nat × V)
  G : Hp
structure RE (K : Frag) (W : Wd) (Hs H : Hp) (σ : L2.St) (δ : Env) : Prop where
  ex : Ex Hs H
  fg : ∀ a o, W.G a = some o → H a = some o ∧ Hs a = none
  len : σ.length = δ.length
  sh : ∀ (i : Nat) (d : D), δ[i]? = some (Sl.sh d) → ∃ v : V, σ[i]? = some (some v) ∧ Rp K Hs v d
  ow : ∀ (i : Nat) (s : Sl), δ[i]? = some s → s.own = true → ∃ (a : Addr) (o : HO), σ[i]? = some (some (V.ref a)) ∧ H a = some o ∧ OwR K Hs s o ∧ Hs a = none ∧ W.G a = none
  ap : ∀ (i j : Nat) (s t : Sl) (a : Addr), δ[i]? = some s → s.own = true → δ[j]? = some t → t.own = true → σ[i]? = some (some (V.ref a)) → σ[j]? = some (some (V.ref a)) → i = j
  pin : ∀ p ∈ W.pn, σ[p.1]? = some (some p.2) ∧ ∃ s : Sl, δ[p.1]? = some s ∧ s.own = true

/-- new stable things, all of them fresh -/
structure Gr (Hs H Hs' H' : Hp) : Prop where
  s : Ex Hs Hs'
  h : Ex H H'
  i : Ex Hs' H'
  f : ∀ a, H a ≠ none → Hs' a = Hs a
theorem Gr.refl {Hs H : Hp} (e : Ex Hs H) : Gr Hs H Hs H := ⟨Ex.refl _, Ex.refl _, e, fun _ _ => rfl⟩
theorem ex_none {Hs H : Hp} {p : Addr} (e : Ex Hs H) (h : H p = none) : Hs p = none := by
  cases q : Hs p with
  | none => rfl
  | some o => rw [e p o q] at h; cases h
theorem Gr.new {Hs H : Hp} {p : Addr} {o : HO} (e : Ex Hs H) (h : H p = none) : Gr Hs H (upd Hs p o) (upd H p o) where
  s := ex_new (ex_none e h)
  h := ex_new h
  i := fun a u q => by
    by_cases hap : a = p
    · subst hap; rw [upd_same] at q ⊢; exact q
    · rw [upd_ne hap] at q ⊢; exact e a u q
  f := fun a ha => by
    have hap : a ≠ p := fun z => ha (z ▸ h)
    rw [upd_ne hap]
theorem Gr.trans {Hs H Hs1 H1 Hs2 H2 : Hp} (a : Gr Hs H Hs1 H1) (b : Gr Hs1 H1 Hs2 H2) : Gr Hs H Hs2 H2 where
  s := a.s.trans b.s
  h := a.h.trans b.h
  i := b.i
  f := fun x hx => by
    have h1 : H1 x ≠ none := by
      cases q : H x with
      | none => exact absurd q hx
      | some o => rw [a.h x o q]; simp
    rw [b.f x h1, a.f x hx]
section
variable {K : Frag} {W : Wd} {Hs H Hs' H' : Hp} {σ σ' : L2.St} {δ δ' : Env}
theorem RE.grow (r : RE K W Hs H σ δ) (g : Gr Hs H Hs' H') : RE K W Hs' H' σ δ where
  ex := g.i
  fg := fun a o q => by
    obtain ⟨h1, h2⟩ := r.fg a o q
    refine ⟨g.h a o h1, ?_⟩
    rw [g.f a (by rw [h1]; simp), h2]
  len := r.len
  sh := fun i d q => by
    obtain ⟨v, h1, h2⟩ := r.sh i d q
    exact ⟨v, h1, h2.ex g.s⟩
  ow := fun i s q w => by
    obtain ⟨a, o, h1, h2, h3, h4, h5⟩ := r.ow i s q w
    refine ⟨a, o, h1, g.h a o h2, h3.ex g.s, ?_, h5⟩
    rw [g.f a (by rw [h2]; simp), h4]
  ap := r.ap
  pin := r.pin
/-- a slot that says nothing may hold anything -/
theorem RE.sig (r : RE K W Hs H σ δ) (hl : σ'.length = σ.length) (h : ∀ (i : Nat) (s : Sl), δ[i]? = some s → s ≠ Sl.no → σ'[i]? = σ[i]?) : RE K W Hs H σ' δ where
  ex := r.ex
  fg := r.fg
  len := hl.trans r.len
  sh := fun i d q => by rw [h i _ q (by simp)]; exact r.sh i d q
  ow := fun i s q w => by rw [h i s q (by rintro rfl; cases w)]; exact r.ow i s q w
  ap := fun i j s t a h1 h2 h3 h4 h5 h6 => by
    rw [h i s h1 (by rintro rfl; cases h2)] at h5
    rw [h j t h3 (by rintro rfl; cases h4)] at h6
    exact r.ap i j s t a h1 h2 h3 h4 h5 h6
  pin := fun p hp => by
    obtain ⟨h1, s, h2, h3⟩ := r.pin p hp
    refine ⟨?_, s, h2, h3⟩
    rw [h p.1 s h2 (by rintro rfl; cases h3)]
    exact h1
/-- less is said -/
theorem RE.less (r : RE K W Hs H σ δ) (hl : δ'.length = δ.length) (h : ∀ (i : Nat) (s : Sl), δ'[i]? = some s → s = Sl.no ∨ δ[i]? = some s) (hp : ∀ p ∈ W.pn, δ'[p.1]? = δ[p.1]?) : RE K W Hs H σ δ' where
  ex := r.ex
  fg := r.fg
  len := r.len.trans hl.symm
  sh := fun i d q => by
    rcases h i _ q with z | z
    · cases z
    · exact r.sh i d z
  ow := fun i s q w => by
    rcases h i _ q with z | z
    · subst z; cases w
    · exact r.ow i s z w
  ap := fun i j s t a h1 h2 h3 h4 h5 h6 => by
    rcases h i _ h1 with z | z
    · subst z; cases h2
    · rcases h j _ h3 with z' | z'
      · subst z'; cases h4
      · exact r.ap i j s t a z h2 z' h4 h5 h6
  pin := fun p hpn => by
    obtain ⟨h1, s, h2, h3⟩ := r.pin p hpn
    exact ⟨h1, s, (hp p hpn).trans h2, h3⟩
end

theorem setGet {α : Type} {l : List α} {i j : Nat} {x s : α} (h : (l.set i x)[j]? = some s) : (j = i ∧ s = x) ∨ (j ≠ i ∧ l[j]? = some s) := by
  by_cases e : j = i
  · subst e
    by_cases hl : j < l.length
    · rw [List.getElem?_set_self hl] at h
      exact .inl ⟨rfl, (Option.some.inj h).symm⟩
    · rw [List.getElem?_eq_none (by simpa using hl)] at h; cases h
  · rw [List.getElem?_set_ne (Ne.symm e)] at h
    exact .inr ⟨e, h⟩
theorem set_lt {α : Type} {l : List α} {i : Nat} {x s : α} (h : (l.set i x)[i]? = some s) : i < l.length := by
  by_cases hl : i < l.length
  · exact hl
  · rw [List.getElem?_eq_none (by simpa using hl)] at h; cases h

/-- a fresh list that no name holds yet -/
structure FrO (K : Frag) (W : Wd) (Hs H : Hp) (σ : L2.St) (δ : Env) (a : Addr) (xs : List D) : Prop where
  at_ : ∃ vs, H a = some (.lst vs) ∧ Rps K Hs vs xs
  hs : Hs a = none
  g : W.G a = none
  ne : ∀ (i : Nat) (s : Sl), δ[i]? = some s → s.own = true → σ[i]? ≠ some (some (V.ref a))

section
variable {K : Frag} {W : Wd} {Hs H Hs' H' : Hp} {σ : L2.St} {δ : Env} {v : V} {d : D} {i : Nat} {a : Addr} {xs : List D}
theorem RE.setSh (r : RE K W Hs H σ δ) (h : Rp K Hs v d) (hi : i ∉ W.pn.map (·.1)) : RE K W Hs H (σ.set i (some v)) (δ.set i (.sh d)) where
  ex := r.ex
  fg := r.fg
  len := by rw [List.length_set, List.length_set]; exact r.len
  sh := fun j e q => by
    rcases setGet q with ⟨rfl, z⟩ | ⟨hj, z⟩
    · cases z
      have hl := set_lt q
      exact ⟨v, by rw [List.getElem?_set_self (by rw [r.len]; exact hl)], h⟩
    · rw [List.getElem?_set_ne (Ne.symm hj)]
      exact r.sh j e z
  ow := fun j s q w => by
    rcases setGet q with ⟨rfl, z⟩ | ⟨hj, z⟩
    · subst z; cases w
    · rw [List.getElem?_set_ne (Ne.symm hj)]
      exact r.ow j s z w
  ap := fun j k s t b h1 h2 h3 h4 h5 h6 => by
    rcases setGet h1 with ⟨rfl, z⟩ | ⟨hj, z⟩
    · subst z; cases h2
    · rcases setGet h3 with ⟨rfl, z'⟩ | ⟨hk, z'⟩
      · subst z'; cases h4
      · rw [List.getElem?_set_ne (Ne.symm hj)] at h5
        rw [List.getElem?_set_ne (Ne.symm hk)] at h6
        exact r.ap j k s t b z h2 z' h4 h5 h6
  pin := fun p hp => by
    have hne : i ≠ p.1 := fun z => hi (z ▸ List.mem_map_of_mem hp)
    rw [List.getElem?_set_ne hne, List.getElem?_set_ne hne]
    exact r.pin p hp
theorem RE.setOw (r : RE K W Hs H σ δ) (h : FrO K W Hs H σ δ a xs) (hi : i ∉ W.pn.map (·.1)) : RE K W Hs H (σ.set i (some (V.ref a))) (δ.set i (.ow xs)) where
  ex := r.ex
  fg := r.fg
  len := by rw [List.length_set, List.length_set]; exact r.len
  sh := fun j e q => by
    rcases setGet q with ⟨rfl, z⟩ | ⟨hj, z⟩
    · cases z
    · rw [List.getElem?_set_ne (Ne.symm hj)]
      exact r.sh j e z
  ow := fun j s q w => by
    rcases setGet q with ⟨rfl, z⟩ | ⟨hj, z⟩
    · subst z
      have hl := set_lt q
      obtain ⟨vs, e1, e2⟩ := h.at_
      exact ⟨a, _, by rw [List.getElem?_set_self (by rw [r.len]; exact hl)], e1, e2, h.hs, h.g⟩
    · rw [List.getElem?_set_ne (Ne.symm hj)]
      exact r.ow j s z w
  ap := fun j k s t b h1 h2 h3 h4 h5 h6 => by
    rcases setGet h1 with ⟨ej, z⟩ | ⟨hj, z⟩
    · rcases setGet h3 with ⟨ek, z'⟩ | ⟨hk, z'⟩
      · exact ej.trans ek.symm
      · subst ej
        have hl := set_lt h1
        rw [List.getElem?_set_self (by rw [r.len]; exact hl)] at h5
        rw [List.getElem?_set_ne (Ne.symm hk)] at h6
        cases h5
        exact absurd h6 (h.ne k t z' h4)
    · rcases setGet h3 with ⟨ek, z'⟩ | ⟨hk, z'⟩
      · subst ek
        have hl := set_lt h3
        rw [List.getElem?_set_self (by rw [r.len]; exact hl)] at h6
        rw [List.getElem?_set_ne (Ne.symm hj)] at h5
        cases h6
        exact absurd h5 (h.ne j s z h2)
      · rw [List.getElem?_set_ne (Ne.symm hj)] at h5
        rw [List.getElem?_set_ne (Ne.symm hk)] at h6
        exact r.ap j k s t b z h2 z' h4 h5 h6
  pin := fun p hp => by
    have hne : i ≠ p.1 := fun z => hi (z ▸ List.mem_map_of_mem hp)
    rw [List.getElem?_set_ne hne, List.getElem?_set_ne hne]
    exact r.pin p hp
/-- the list of a slot is changed in place -/
theorem RE.write {s : Sl} {o : HO} (r : RE K W Hs H σ δ) {t : Sl} (ht : δ[i]? = some t) (hto : t.own = true) (ha : σ[i]? = some (some (V.ref a))) (hs : s.own = true) (ho : OwR K Hs s o) : RE K W Hs (upd H a o) σ (δ.set i s) := by
  obtain ⟨a', o', e1, e2, e3, e4, e5⟩ := r.ow i t ht hto
  have haa : a' = a := by rw [ha] at e1; cases e1; rfl
  subst haa
  have hil : i < δ.length := (List.getElem?_eq_some_iff.mp ht).1
  exact {
    ex := fun b u q => by
      have hb : b ≠ a' := fun z => by rw [z, e4] at q; cases q
      rw [upd_ne hb]; exact r.ex b u q
    fg := fun b u q => by
      have hb : b ≠ a' := fun z => by rw [z, e5] at q; cases q
      rw [upd_ne hb]; exact r.fg b u q
    len := by rw [List.length_set]; exact r.len
    sh := fun j e q => by
      rcases setGet q with ⟨rfl, z⟩ | ⟨hj, z⟩
      · subst z; cases hs
      · exact r.sh j e z
    ow := fun j u q w => by
      rcases setGet q with ⟨rfl, z⟩ | ⟨hj, z⟩
      · subst z; exact ⟨a', o, ha, upd_same, ho, e4, e5⟩
      · obtain ⟨b, p, f1, f2, f3, f4, f5⟩ := r.ow j u z w
        have hb : b ≠ a' := fun zz => by
          subst zz
          exact hj (r.ap j i u t b z w ht hto f1 ha)
        exact ⟨b, p, f1, by rw [upd_ne hb]; exact f2, f3, f4, f5⟩
    ap := fun j k u w b h1 h2 h3 h4 h5 h6 => by
      have f : ∀ {j : Nat} {u : Sl}, (δ.set i s)[j]? = some u → u.own = true → ∃ u', δ[j]? = some u' ∧ u'.own = true := fun {j u} q w => by
        rcases setGet q with ⟨rfl, z⟩ | ⟨hj, z⟩
        · exact ⟨t, ht, hto⟩
        · exact ⟨u, z, w⟩
      obtain ⟨u1, q1, w1⟩ := f h1 h2
      obtain ⟨u2, q2, w2⟩ := f h3 h4
      exact r.ap j k u1 u2 b q1 w1 q2 w2 h5 h6
    pin := fun p hp => by
      obtain ⟨h1, u, h2, h3⟩ := r.pin p hp
      refine ⟨h1, ?_⟩
      by_cases hpi : i = p.1
      · exact ⟨s, by rw [← hpi, List.getElem?_set_self hil], hs⟩
      · exact ⟨u, by rw [List.getElem?_set_ne hpi]; exact h2, h3⟩ }
end
end Dn
namespace Dn
open PySem PySem.Spec PyProof.Rows L2

/-- what is wanted of an exception -/
abbrev XQ := Exn → L2.St → Hp → Prop
abbrev noX : XQ := fun _ _ _ => False
def Post {α : Type} (K : Frag) (E : XQ) (W : Wd) (Hs : Hp) (σ : L2.St) (r : Res α) (Q : α → Hp → Hp → Env → Prop) : Prop :=
  match r with
  | .ok a δ' => ∀ Hs' H', Ex Hs Hs' → RE K W Hs' H' σ δ' → Q a Hs' H' δ'
  | .exc x δ' => ∀ Hs' H', Ex Hs Hs' → RE K W Hs' H' σ δ' → E x σ H'
  | .bad => False
theorem Post.ex {α : Type} {K : Frag} {E : XQ} {W : Wd} {Hs Hs1 : Hp} {σ : L2.St} {r : Res α} {Q : α → Hp → Hp → Env → Prop} (h : Post K E W Hs σ r Q) (e : Ex Hs Hs1) : Post K E W Hs1 σ r Q := by
  cases r with
  | ok a δ' => exact fun Hs' H' e' r => h Hs' H' (e.trans e') r
  | exc x δ' => exact fun Hs' H' e' r => h Hs' H' (e.trans e') r
  | bad => exact h
theorem Post.of {α : Type} {K : Frag} {E : XQ} {W : Wd} {Hs H : Hp} {σ : L2.St} {a : α} {δ : Env} {Q : α → Hp → Hp → Env → Prop} (h : Post K E W Hs σ (.ok a δ) Q) (r : RE K W Hs H σ δ) : Q a Hs H δ := h Hs H (Ex.refl _) r
theorem Post.grow {α : Type} {K : Frag} {E : XQ} {W : Wd} {Hs H Hs' H' : Hp} {σ : L2.St} {a : α} {δ : Env} {Q : α → Hp → Hp → Env → Prop} (h : Post K E W Hs σ (.ok a δ) Q) (r : RE K W Hs H σ δ) (g : Gr Hs H Hs' H') : Q a Hs' H' δ :=
  h Hs' H' g.s (r.grow g)

/-- a run from some world that the slots and the heap bear -/
def Cf {α : Type} (K : Frag) (E : XQ) (ps : List Nat) (m : M α) (σ : L2.St) (H : Hp) (Q : Wd → α → Hp → Hp → Env → Prop) : Prop :=
  ∃ (W : Wd) (Hs : Hp) (δ : Env), W.pn.map (·.1) = ps ∧ RE K W Hs H σ δ ∧ Post K E W Hs σ (m δ) (Q W)
def tOf (K : Frag) (E : XQ) (ps : List Nat) (m : M D) : TE := fun σ H Q => Cf K E ps m σ H fun _ d Hs' H' _ => ∀ v, Rp K Hs' v d → Q v H'
def tOfT (K : Frag) (E : XQ) (ps : List Nat) (m : M Bool) : TT := fun σ H Q => Cf K E ps m σ H fun _ b _ H' _ => Q b H'
def tOfO (K : Frag) (E : XQ) (ps : List Nat) (m : M (List D)) : TE := fun σ H Q => Cf K E ps m σ H fun W xs Hs' H' δ' => ∀ a, FrO K W Hs' H' σ δ' a xs → Q (.ref a) H'
/-- an argument: shared data, or a list of one's own -/
inductive Ag where
  | sh (d : D)
  | ow (i : Nat)
def AgR (K : Frag) (Hs : Hp) (σ : L2.St) : List V → List Ag → Prop
  | [], [] => True
  | v :: vs, .sh d :: gs => Rp K Hs v d ∧ AgR K Hs σ vs gs
  | v :: vs, .ow i :: gs => σ[i]? = some (some v) ∧ AgR K Hs σ vs gs
  | _, _ => False
def tOfA (K : Frag) (E : XQ) (ps : List Nat) (m : M (List Ag)) : TA := fun σ H Q => Cf K E ps m σ H fun _ gs Hs' H' _ => ∀ vs, AgR K Hs' σ vs gs → Q vs H'
theorem AgR.ex {K : Frag} {Hs Hs' : Hp} {σ : L2.St} (e : Ex Hs Hs') : ∀ {vs : List V} {gs : List Ag}, AgR K Hs σ vs gs → AgR K Hs' σ vs gs
  | [], [], _ => trivial
  | [], _ :: _, h => h.elim
  | _ :: _, [], h => h.elim
  | _ :: _, .sh _ :: _, h => ⟨h.1.ex e, AgR.ex e h.2⟩
  | _ :: _, .ow _ :: _, h => ⟨h.1, AgR.ex e h.2⟩

section
variable {K : Frag} {E : XQ} {ps : List Nat} {W : Wd} {Hs H : Hp} {σ : L2.St} {δ : Env}
/-- one step of a run: a part is run, the rest goes on -/
theorem Cf.step {α β : Type} {ma : M α} {f : α → M β} {QQ : β → Hp → Hp → Env → Prop} {R : Wd → α → Hp → Hp → Env → Prop} (hp : W.pn.map (·.1) = ps) (re : RE K W Hs H σ δ) (po : Post K E W Hs σ (mBind ma f δ) QQ)
    (k : ∀ a Hs1 H1 δ1, Ex Hs Hs1 → RE K W Hs1 H1 σ δ1 → Post K E W Hs1 σ (f a δ1) QQ → R W a Hs1 H1 δ1) : Cf K E ps ma σ H R := by
  refine ⟨W, Hs, δ, hp, re, ?_⟩
  unfold mBind at po
  cases h : ma δ with
  | ok a δ1 =>
    rw [h] at po
    exact fun Hs' H' e r => k a Hs' H' δ1 e r (Post.ex po e)
  | exc x δ1 =>
    rw [h] at po
    exact po
  | bad =>
    rw [h] at po
    exact po
theorem tOf.step {β : Type} {ma : M D} {f : D → M β} {QQ : β → Hp → Hp → Env → Prop} {R : V → Hp → Prop} (hp : W.pn.map (·.1) = ps) (re : RE K W Hs H σ δ) (po : Post K E W Hs σ (mBind ma f δ) QQ)
    (k : ∀ v d Hs1 H1 δ1, Ex Hs Hs1 → RE K W Hs1 H1 σ δ1 → Rp K Hs1 v d → Post K E W Hs1 σ (f d δ1) QQ → R v H1) : tOf K E ps ma σ H R :=
  Cf.step hp re po fun d Hs1 H1 δ1 e r p v rv => k v d Hs1 H1 δ1 e r rv p
theorem tOfT.step {β : Type} {ma : M Bool} {f : Bool → M β} {QQ : β → Hp → Hp → Env → Prop} {R : Bool → Hp → Prop} (hp : W.pn.map (·.1) = ps) (re : RE K W Hs H σ δ) (po : Post K E W Hs σ (mBind ma f δ) QQ)
    (k : ∀ b Hs1 H1 δ1, Ex Hs Hs1 → RE K W Hs1 H1 σ δ1 → Post K E W Hs1 σ (f b δ1) QQ → R b H1) : tOfT K E ps ma σ H R :=
  Cf.step hp re po k
theorem tOfA.step {β : Type} {ma : M (List Ag)} {f : List Ag → M β} {QQ : β → Hp → Hp → Env → Prop} {R : List V → Hp → Prop} (hp : W.pn.map (·.1) = ps) (re : RE K W Hs H σ δ) (po : Post K E W Hs σ (mBind ma f δ) QQ)
    (k : ∀ vs gs Hs1 H1 δ1, Ex Hs Hs1 → RE K W Hs1 H1 σ δ1 → AgR K Hs1 σ vs gs → Post K E W Hs1 σ (f gs δ1) QQ → R vs H1) : tOfA K E ps ma σ H R :=
  Cf.step hp re po fun gs Hs1 H1 δ1 e r p vs rv => k vs gs Hs1 H1 δ1 e r rv p
theorem tOfO.step {β : Type} {ma : M (List D)} {f : List D → M β} {QQ : β → Hp → Hp → Env → Prop} {R : V → Hp → Prop} (hp : W.pn.map (·.1) = ps) (re : RE K W Hs H σ δ) (po : Post K E W Hs σ (mBind ma f δ) QQ)
    (k : ∀ a xs Hs1 H1 δ1, Ex Hs Hs1 → RE K W Hs1 H1 σ δ1 → FrO K W Hs1 H1 σ δ1 a xs → Post K E W Hs1 σ (f xs δ1) QQ → R (.ref a) H1) : tOfO K E ps ma σ H R :=
  Cf.step hp re po fun xs Hs1 H1 δ1 e r p a fa => k a xs Hs1 H1 δ1 e r fa p
/-- the last part of a run -/
theorem Cf.last {α : Type} {ma : M α} {R : Wd → α → Hp → Hp → Env → Prop} (hp : W.pn.map (·.1) = ps) (re : RE K W Hs H σ δ) (po : Post K E W Hs σ (ma δ) (R W)) : Cf K E ps ma σ H R := ⟨W, Hs, δ, hp, re, po⟩
theorem Post.opt {α : Type} {o : Option α} {QQ : α → Hp → Hp → Env → Prop} (po : Post K E W Hs σ (mOpt o δ) QQ) : ∃ a, o = some a ∧ Post K E W Hs σ (.ok a δ) QQ := by
  unfold mOpt at po
  cases o with
  | none => exact po.elim
  | some a => exact ⟨a, rfl, po⟩
end
theorem pe_imp {X : Cx} {e : Expr} {t t' : TE} (h : PE X e t) (k : ∀ σ H Q, t' σ H Q → t σ H Q) : PE X e t' := ⟨fun pins s σ H Q I q => h.run pins s σ H Q I (k σ H Q q)⟩
theorem pt_imp {X : Cx} {e : Expr} {t t' : TT} (h : PT X e t) (k : ∀ σ H Q, t' σ H Q → t σ H Q) : PT X e t' := ⟨fun pins s σ H Q I q => h.run pins s σ H Q I (k σ H Q q)⟩
theorem pw_imp {X : Cx} {e : Expr} {t t' : TT} (h : PW X e t) (k : ∀ σ H Q, t' σ H Q → t σ H Q) : PW X e t' := ⟨fun wh pins s σ H Q I q => h.run wh pins s σ H Q I (k σ H Q q)⟩
theorem pa_imp {X : Cx} {e : List Expr} {t t' : TA} (h : PA X e t) (k : ∀ σ H Q, t' σ H Q → t σ H Q) : PA X e t' := ⟨fun p pins s σ H Q I q => h.run p pins s σ H Q I (k σ H Q q)⟩
theorem pst_imp {X : Cx} {e : Stmt} {t t' : TS} (h : PS X e t) (k : ∀ D σ H, t' D σ H → t D σ H) : PS X e t' := ⟨fun pins s σ H D I q => h.run pins s σ H D I (k D σ H q)⟩
theorem pss_imp {X : Cx} {e : List Stmt} {t t' : TS} (h : PSs X e t) (k : ∀ D σ H, t' D σ H → t D σ H) : PSs X e t' := ⟨fun pins s σ H D I q => h.run pins s σ H D I (k D σ H q)⟩

section
variable {X : Cx} {E : XQ} {ps : List Nat} {a b e : Expr} {pos : Pos} {ma mb : M D}

def mVar (i : Nat) : M D := fun δ => match δ[i]? with
  | some (.sh d) => .ok d δ
  | _ => .bad
theorem je_var {i : Nat} {x : Str} (hN : X.N[i]? = some x) (hv : Vis X.env.scope x) (hd : (x == ("__debug__" : Str)) = false := by decide) (hcd : (x == ("__classdict__" : Str)) = false := by decide) : PE X (.Name x pos) (tOf X.K E ps (mVar i)) :=
  pe_imp (pe_var hN hv hd hcd) fun σ H Q ⟨W, Hs, δ, hp, re, po⟩ => by
    unfold mVar at po
    split at po
    · rename_i d hd
      obtain ⟨v, h1, h2⟩ := re.sh i d hd
      exact ⟨v, h1, po Hs H (Ex.refl _) re v h2⟩
    · exact po.elim
/-- a constant -/
def mC (d : D) : M D := mPure d
theorem je_c {t : TE} {d : D} {v : V} (h : PE X e (tC v)) (hv : ∀ H, Rp X.K H v d) : PE X e (tOf X.K E ps (mC d)) :=
  pe_imp h fun σ H Q ⟨W, Hs, δ, hp, re, po⟩ => Post.of po re v (hv Hs)
theorem je_int {i : Int} {j pos} : PE X (.Constant (.int i) j pos) (tOf X.K E ps (mC (.int i))) := je_c (t := tC (.int i)) pe_int fun _ => .int i
theorem je_bl {i : Bool} {j pos} : PE X (.Constant (.bool i) j pos) (tOf X.K E ps (mC (.bool i))) := je_c (t := tC (.bl i)) pe_bl fun _ => .bl i
theorem je_non {j pos} : PE X (.Constant .none j pos) (tOf X.K E ps (mC .none)) := je_c (t := tC .non) pe_non fun _ => .non
theorem je_str {x : Str} {j pos} : PE X (.Constant (.str x) j pos) (tOf X.K E ps (mC (.str x))) := je_c (t := tC (.str x)) pe_str fun _ => .str x
theorem je_glob {x : Str} {v : V} {u : Value} {d : D} (hg : Gl X x) (hm : X.mg x = some u) (r : RelV v u) (hv : ∀ H, Rp X.K H v d) (hd : (x == ("__debug__" : Str)) = false := by decide) : PE X (.Name x pos) (tOf X.K E ps (mC d)) := je_c (t := tC v) (pe_glob hg hm r hd) hv

/-- a reading by values gives what a function upon data tells -/
def OpS (K : Frag) (r : R2) (g : D → D → Option D) : Prop := ∀ Hs H x y d e c (Q : VK), Ex Hs H → Rp K Hs x d → Rp K Hs y e → g d e = some c → (∀ v Hs' H', Gr Hs H Hs' H' → Rp K Hs' v c → Q v H') → r x y H Q
theorem OpS.or {K : Frag} {r r' : R2} {g g' : D → D → Option D} (h : OpS K r g) (h' : OpS K r' g') : OpS K (fun x y H Q => r x y H Q ∨ r' x y H Q) (fun d e => (g d e).or (g' d e)) := fun Hs H x y d e c Q ex rx ry hg k => by
  have hg : (g d e).or (g' d e) = some c := hg
  cases q : g d e with
  | some c' =>
    rw [q] at hg
    have hc : c' = c := by simpa using hg
    subst hc
    exact .inl (h Hs H x y d e c' Q ex rx ry q k)
  | none =>
    rw [q] at hg
    exact .inr (h' Hs H x y d e c Q ex rx ry (by simpa using hg) k)
def mBin (g : D → D → Option D) (ma mb : M D) : M D := mBind ma fun d => mBind mb fun e => mOpt (g d e)
theorem binS {r : R2} {g : D → D → Option D} (hr : OpS X.K r g) {σ : L2.St} {H : Hp} {Q : VK} (h : tOf X.K E ps (mBin g ma mb) σ H Q) : tOp r (tOf X.K E ps ma) (tOf X.K E ps mb) σ H Q := by
  obtain ⟨W, Hs, δ, hp, re, po⟩ := h
  refine tOf.step hp re po fun x d Hs1 H1 δ1 e1 re1 r1 po1 => ?_
  refine tOf.step hp re1 po1 fun y e Hs2 H2 δ2 e2 re2 r2 po2 => ?_
  obtain ⟨c, hc, po3⟩ := Post.opt po2
  exact hr Hs2 H2 x y d e c Q re2.ex (r1.ex e2) r2 hc fun v Hs' H' g rv => Post.grow po3 re2 g v rv
theorem je_bin {op : Operator} {r : R2} {g : D → D → Option D} (ho : OpR X (binaryOp op) r) (hr : OpS X.K r g) (ha : PE X a (tOf X.K E ps ma)) (hb : PE X b (tOf X.K E ps mb)) : PE X (.BinOp a op b pos) (tOf X.K E ps (mBin g ma mb)) :=
  pe_imp (pe_op ho ha hb) fun _ _ _ h => binS hr h
theorem je_cmp {op : CmpOp} {r : R2} {g : D → D → Option D} (ho : OpR X (compareOp op) r) (hr : OpS X.K r g) (ha : PE X a (tOf X.K E ps ma)) (hb : PE X b (tOf X.K E ps mb)) (hm : behindInMarks op b = false) : PE X (.Compare a [op] [b] pos) (tOf X.K E ps (mBin g ma mb)) :=
  pe_imp (pe_cmpR ho ha hb hm) fun _ _ _ h => binS hr h
def toB : D → Option Bool
  | .bool b => some b
  | _ => none
def mTest (m : M D) : M Bool := mBind m fun d => mOpt (toB d)
theorem testS {t : TE} {m : M D} (h : ∀ σ H Q, tOf X.K E ps m σ H Q → t σ H Q) {σ : L2.St} {H : Hp} {Q : Bool → Hp → Prop} (q : tOfT X.K E ps (mTest m) σ H Q) : tTest t σ H Q := by
  obtain ⟨W, Hs, δ, hp, re, po⟩ := q
  refine h _ _ _ (tOf.step hp re po fun x d Hs1 H1 δ1 e1 re1 r1 po1 => ?_)
  obtain ⟨c, hc, po3⟩ := Post.opt po1
  cases r1 <;> simp [toB] at hc
  subst hc
  exact ⟨_, rfl, Post.of po3 re1⟩
theorem jt_cmp {op : CmpOp} {r : R2} {g : D → D → Option D} (ho : OpR X (compareOp op) r) (hr : OpS X.K r g) (ha : PE X a (tOf X.K E ps ma)) (hb : PE X b (tOf X.K E ps mb)) (hm : behindInMarks op b = false) : PT X (.Compare a [op] [b] pos) (tOfT X.K E ps (mTest (mBin g ma mb))) :=
  pt_imp (pt_cmpR ho ha hb hm) fun _ _ _ h => testS (fun _ _ _ => binS hr) h
/-- an expression that is True or False, as a test -/
theorem jt_val {m : M D} (h : PE X e (tOf X.K E ps m)) (he : ∀ whole, isTrue e X.env whole = (do let v ← whole; standAt e.pos; holding [v] (truthy v)) := by intro _; rfl) : PT X e (tOfT X.K E ps (mTest m)) :=
  pt_imp (pt_val h he) fun _ _ _ q => testS (fun _ _ _ z => z) q
/-- an int, a text, a list .. as a test -/
def truD : D → Option Bool
  | .none => some false
  | .bool b => some b
  | .int i => some (i != 0)
  | .str x => if x.length ≤ sizeLine then some (x.length != 0) else none
  | .list xs => some (!xs.isEmpty)
  | .tuple xs => some (!xs.isEmpty)
  | _ => none

def mChain (g g' : D → D → Option D) (ma mb mc : M D) : M D := mBind ma fun d => mBind mb fun e => mBind (mOpt ((g d e).bind toB)) fun k => if k then mBind mc fun f => mOpt (g' e f) else mPure (.bool false)
variable {c : Expr} {mc : M D}
/-- comparisons that give truths and lay nothing -/
def OpB (K : Frag) (r : R2) (g : D → D → Option D) : Prop := ∀ Hs H x y d e k (Q : VK), Ex Hs H → Rp K Hs x d → Rp K Hs y e → (g d e).bind toB = some k → Q (.bl k) H → r x y H Q
theorem chainS {r r' : R2} {g g' : D → D → Option D} (hr : OpB X.K r g) (hr' : OpS X.K r' g') {σ : L2.St} {H : Hp} {Q : VK} (h : tOf X.K E ps (mChain g g' ma mb mc) σ H Q) : tChain r r' (tOf X.K E ps ma) (tOf X.K E ps mb) (tOf X.K E ps mc) σ H Q := by
  obtain ⟨W, Hs, δ, hp, re, po⟩ := h
  refine tOf.step hp re po fun x d Hs1 H1 δ1 e1 re1 r1 po1 => ?_
  refine tOf.step hp re1 po1 fun y e Hs2 H2 δ2 e2 re2 r2 po2 => ?_
  have q : ∃ k, (g d e).bind toB = some k ∧ Post X.K E W Hs2 σ ((if k then mBind mc fun f => mOpt (g' e f) else mPure (.bool false)) δ2) fun d Hs' H' _ => ∀ v, Rp X.K Hs' v d → Q v H' := by
    unfold mBind at po2
    unfold mOpt at po2
    cases z : (g d e).bind toB with
    | none => rw [z] at po2; exact po2.elim
    | some k => rw [z] at po2; exact ⟨k, rfl, po2⟩
  obtain ⟨k, hk, po3⟩ := q
  refine hr Hs2 H2 x y d e k _ re2.ex (r1.ex e2) r2 hk ⟨k, rfl, ?_⟩
  cases k with
  | true =>
    rw [if_pos rfl] at po3 ⊢
    refine tOf.step hp re2 po3 fun z f Hs3 H3 δ3 e3 re3 r3 po4 => ?_
    obtain ⟨c, hc, po5⟩ := Post.opt po4
    exact hr' Hs3 H3 y z e f c Q re3.ex (r2.ex e3) r3 hc fun v Hs' H' g rv => Post.grow po5 re3 g v rv
  | false =>
    rw [if_neg Bool.false_ne_true] at po3 ⊢
    exact Post.of po3 re2 _ (.bl false)
end
end Dn
namespace Dn
open PySem PySem.Spec PyProof.Rows L2

section
variable {X : Cx} {K : Frag}
/-- two lists that stand in the heap, put together -/
def rCatR (K : Frag) : R2 := fun x y H Q => ∃ (l b : Addr) (xs zs : List V), x = .ref l ∧ y = .ref b ∧ SqL K H l xs ∧ SqL K H b zs ∧ xs.length + zs.length ≤ sizeLine ∧ ∀ p, H p = none → Q (.ref p) (upd H p (.lst (xs ++ zs)))
theorem op_catR : OpR X (binaryOp .Add) (rCatR X.K) := by
  intro pins s σ H x y v u Q I rx ry h
  obtain ⟨l, b, xs, zs, e1, e2, hl, hb, hz, q⟩ := h
  subst e1; subst e2
  obtain rfl : v = Value.ref l := rx
  obtain rfl : u = Value.ref b := ry
  obtain ⟨its, r1, ⟨o1, n1, g1, c1, d1, t1⟩, _⟩ := I.list hl
  obtain ⟨jts, r2, ⟨o2, n2, g2, c2, d2, t2⟩, _⟩ := I.list hb
  cases o1
  cases o2
  simp only at c1 d1 t1 c2 d2 t2
  subst c1 d1 t1 c2 d2 t2
  have m1 := r1.length
  have m2 := r2.length
  have ea : its.toArray ++ jts.toArray = (its ++ jts).toArray := by simp
  refine concat_meets ⟨_, g1, rfl⟩ ⟨_, g2, rfl⟩ noFill_list_add seq_list_add PySem.F.slot_list_add PySem.F.entry_list_add
    (PySem.F.args_list_add_2 _ _) (PyProof.Rows.list_addW l b its.toArray jts.toArray _ _ _ _ _ _ (by simp only [List.size_toArray]; omega)) ⟨g1, g2, ?_⟩
  rw [ea]
  have hlen : (xs ++ zs).length ≤ sizeLine := by simp only [List.length_append]; omega
  exact ⟨.ref _, _, I.lnew (t' := s.toks) (r1.append r2) hlen, rfl, q _ I.fresh⟩
def rAddA (K : Frag) : R2 := fun x y H Q => (rI0 fun i j => .int (i + j)) x y H Q ∨ (∃ i j, x = .str i ∧ y = .str j ∧ i.length + j.length ≤ sizeLine ∧ Q (.str (i ++ j)) H) ∨ rCatA K x y H Q ∨ rCatR K x y H Q
theorem op_addA : OpR X (binaryOp .Add) (rAddA X.K) := op_add.or (op_add_str.or (op_catA.or op_catR))
def dAdd : D → D → Option D
  | .int i, .int j => some (.int (i + j))
  | .str x, .str y => if x.length + y.length ≤ sizeLine then some (.str (x ++ y)) else none
  | .tuple xs, .tuple ys => if xs.length + ys.length ≤ sizeLine then some (.tuple (xs ++ ys)) else none
  | .list xs, .list ys => if xs.length + ys.length ≤ sizeLine then some (.list (xs ++ ys)) else none
  | _, _ => none
theorem Rps.nil_iff {H : Hp} {vs : List V} {ds : List D} (h : Rps K H vs ds) : vs = [] ↔ ds = [] := by
  cases h <;> simp
theorem os_add : OpS K (rAddA K) dAdd := fun Hs H x y d e c Q ex rx ry hg k => by
  cases rx with
  | int i =>
    cases ry <;> simp [dAdd] at hg
    subst hg
    exact .inl ⟨i, _, rfl, rfl, k _ Hs H (.refl ex) (.int _)⟩
  | str a =>
    cases ry <;> simp [dAdd] at hg
    obtain ⟨hl, hg⟩ := hg
    subst hg
    exact .inr (.inl ⟨a, _, rfl, rfl, hl, k _ Hs H (.refl ex) (.str _)⟩)
  | tup h1 t1 =>
    cases ry with
    | tup h2 t2 =>
      simp [dAdd] at hg
      obtain ⟨hl, hg⟩ := hg
      subst hg
      refine .inr (.inr (.inl ⟨_, _, _, _, rfl, rfl, sqT_ex ex h1, sqT_ex ex h2, by rw [t1.length, t2.length]; exact hl, fun z => ?_, fun z1 z2 => ?_, fun z1 z2 p hp => ?_⟩))
      · have z' := t1.nil_iff.mp z
        subst z'
        exact k _ Hs H (.refl ex) (.tup h2 t2)
      · have z' := t2.nil_iff.mp z2
        subst z'
        exact k _ Hs H (.refl ex) (by rw [List.append_nil]; exact .tup h1 t1)
      · exact k _ _ _ (Gr.new ex hp) (.tup (SqT.of upd_same) ((t1.append t2).ex (Gr.new ex hp).s))
    | _ => simp [dAdd] at hg
  | lst h1 t1 =>
    cases ry with
    | lst h2 t2 =>
      simp [dAdd] at hg
      obtain ⟨hl, hg⟩ := hg
      subst hg
      refine .inr (.inr (.inr ⟨_, _, _, _, rfl, rfl, sqL_ex ex h1, sqL_ex ex h2, by rw [t1.length, t2.length]; exact hl, fun p hp => ?_⟩))
      exact k _ _ _ (Gr.new ex hp) (.lst (SqL.of upd_same) ((t1.append t2).ex (Gr.new ex hp).s))
    | _ => simp [dAdd] at hg
  | _ => cases ry <;> simp [dAdd] at hg
/-- two ints -/
def dI (C : Int → Int → Bool) (f : Int → Int → Int) : D → D → Option D
  | .int i, .int j => if C i j then some (.int (f i j)) else none
  | _, _ => none
theorem os_I {P : Int → Int → Prop} {C : Int → Int → Bool} {f : Int → Int → Int} (hC : ∀ i j, C i j = true → P i j) : OpS K (rI P fun i j => .int (f i j)) (dI C f) := fun Hs H x y d e c Q ex rx ry hg k => by
  cases rx with
  | int i =>
    cases ry <;> simp [dI] at hg
    obtain ⟨hc, hg⟩ := hg
    subst hg
    exact ⟨i, _, rfl, rfl, hC _ _ hc, k _ Hs H (.refl ex) (.int _)⟩
  | _ => cases ry <;> simp [dI] at hg
theorem os_I0 {f : Int → Int → Int} : OpS K (rI0 fun i j => .int (f i j)) (dI (fun _ _ => true) f) := fun Hs H x y d e c Q ex rx ry hg k => by
  cases rx with
  | int i =>
    cases ry <;> simp [dI] at hg
    subst hg
    exact ⟨i, _, rfl, rfl, k _ Hs H (.refl ex) (.int _)⟩
  | _ => cases ry <;> simp [dI] at hg
abbrev dSub := dI (fun _ _ => true) (fun i j => i - j)
theorem os_sub : OpS K (rI0 fun i j => .int (i - j)) dSub := os_I0
abbrev dMod := dI (fun _ j => decide (0 < j)) (fun i j => i % j)
theorem os_mod : OpS K (rI (fun _ j => 0 < j) fun i j => .int (i % j)) dMod := os_I fun _ _ h => of_decide_eq_true h
abbrev dDiv := dI (fun _ j => decide (0 < j ∧ j < 1073741824)) (fun i j => i / j)
theorem os_div : OpS K (rI CDiv fun i j => .int (i / j)) dDiv := os_I fun i j h => (of_decide_eq_true h : 0 < j ∧ j < 1073741824)
abbrev dPow := dI (fun i j => decide (0 ≤ j ∧ j ≤ 1000000 ∧ i.natAbs < 2 ^ 64)) (fun i j => i ^ j.toNat)
theorem os_pow : OpS K (rI CPow fun i j => .int (i ^ j.toNat)) dPow := os_I fun i j h => (of_decide_eq_true h : 0 ≤ j ∧ j ≤ 1000000 ∧ i.natAbs < 2 ^ 64)
theorem rep_size (a : Array Nat) : ∀ (n : Nat) (acc : Array Nat), ((List.replicate n a).foldl (· ++ ·) acc).size = acc.size + n * a.size
  | 0, acc => by simp
  | n + 1, acc => by
    rw [List.replicate_succ, List.foldl_cons, rep_size a n, Array.size_append, Nat.succ_mul]
    omega
/-- a text some times -/
def strRep (x : Str) (n : Int) : Str := if n < 1 then Str.empty else if (n == 1 || x.length == 0) = true then x else ⟨(List.replicate n.toNat x.cps).foldl (· ++ ·) #[]⟩
def rRepS : R2 := fun x y H Q => ∃ z n, x = .str z ∧ y = .int n ∧ (-1000000 ≤ n ∧ n ≤ 1000000 ∧ z.length ≤ 16) ∧ Q (.str (strRep z n)) H
theorem op_repS : OpR X (binaryOp .Mult) rRepS := by
  intro pins s σ H x y v u Q I rx ry h
  obtain ⟨z, n, e1, e2, ⟨h1, h2, h3⟩, q⟩ := h
  subst e1; subst e2
  obtain ⟨t, rfl⟩ := rx
  obtain ⟨t', rfl⟩ := ry
  have hz : z.length * n.toNat ≤ 16000000 := Nat.le_trans (Nat.mul_le_mul h3 (show n.toNat ≤ 1000000 by omega)) (by decide)
  refine PySem.P.mul_str ?_ (fun a b => ?_) (fun a b => ?_) ?_
  · rw [decide_eq_false (by omega), decide_eq_false (by omega)]; rfl
  · have hn : 1 ≤ n := by omega
    intro hc
    have : (16 : Int) ≤ (2 ^ 63 - 1) / n := by
      refine (Int.le_ediv_iff_mul_le (by omega)).mpr ?_
      omega
    omega
  · unfold Builtin.Str.tooLong
    have h16 : (16000000 : Nat) ≤ sizeLine := by decide
    simp
    omega
  · unfold strRep at q
    split
    · rename_i hn
      rw [if_pos hn] at q
      exact ⟨by decide, ⟨.str Str.empty, H, I.tok _, ⟨_, rfl⟩, q⟩⟩
    · rename_i hn
      rw [if_neg hn] at q
      split
      · rename_i hb
        rw [if_pos hb] at q
        exact ⟨.str z, H, I, ⟨_, rfl⟩, q⟩
      · rename_i hb
        rw [if_neg hb] at q
        refine ⟨?_, ⟨.str _, H, I.tok _, ⟨_, rfl⟩, q⟩⟩
        have h16 : (16000000 : Nat) ≤ sizeLine := by decide
        show (Array.size _) ≤ sizeLine
        rw [rep_size]
        have hm : n.toNat * z.cps.size ≤ 16000000 := by rw [Nat.mul_comm]; exact hz
        simp only [List.size_toArray, List.length_nil]
        omega
end
end Dn
namespace Dn
open PySem PySem.Spec PyProof.Rows L2

section
variable {X : Cx} {K : Frag}
def dMul : D → D → Option D
  | .int i, .int j => if (-(2 ^ 64) < i ∧ i < 2 ^ 64) ∨ (-(2 ^ 64) < j ∧ j < 2 ^ 64) then some (.int (i * j)) else none
  | .str x, .int n => if -1000000 ≤ n ∧ n ≤ 1000000 ∧ x.length ≤ 16 then some (.str (strRep x n)) else none
  | _, _ => none
def rMulA : R2 := fun x y H Q => (rI CMul fun i j => .int (i * j)) x y H Q ∨ rRepS x y H Q
theorem op_mulA : OpR X (binaryOp .Mult) rMulA := op_mul.or op_repS
theorem os_mul : OpS K rMulA dMul := fun Hs H x y d e c Q ex rx ry hg k => by
  cases rx with
  | int i =>
    cases ry <;> simp only [dMul, Option.ite_none_right_eq_some, Option.some.injEq, reduceCtorEq] at hg
    obtain ⟨hc, hg⟩ := hg
    subst hg
    exact .inl ⟨i, _, rfl, rfl, hc, k _ Hs H (.refl ex) (.int _)⟩
  | str z =>
    cases ry <;> simp only [dMul, Option.ite_none_right_eq_some, Option.some.injEq, reduceCtorEq] at hg
    obtain ⟨hc, hg⟩ := hg
    subst hg
    exact .inr ⟨z, _, rfl, rfl, hc, k _ Hs H (.refl ex) (.str _)⟩
  | _ => cases ry <;> simp [dMul] at hg

def dEqB : D → D → Option Bool
  | .str x, .str y => some (decide (x = y))
  | d, e => if SeqAt.shaped d = true ∧ SeqAt.shaped e = true then some (PyData.eqv d e) else none
def dEq (d e : D) : Option D := (dEqB d e).map PyData.bool
def dNe (d e : D) : Option D := (dEqB d e).map fun b => PyData.bool (!b)
def rEqA (K : Frag) (neg : Bool) : R2 := fun x y H Q => (∃ i j, x = .str i ∧ y = .str j ∧ Q (.bl (if neg then !decide (i = j) else decide (i = j))) H) ∨ ∃ d e, Dp K H x d ∧ Dp K H y e ∧ SeqAt.shaped d = true ∧ SeqAt.shaped e = true ∧ Q (.bl (if neg then !PyData.eqv d e else PyData.eqv d e)) H
theorem op_eqA (hu : X.A.units + 64 < cLine) : OpR X (compareOp .Eq) (rEqA X.K false) := by
  refine OpR.or (fun pins s σ H x y v u Q I rx ry h => ?_) (op_eqD hu)
  obtain ⟨i, j, e1, e2, q⟩ := h
  subst e1; subst e2
  refine op_eq pins s σ H _ _ v u Q I rx ry ⟨rfl, ?_⟩
  have e : decide (V.str i = V.str j) = decide (i = j) := by by_cases h : i = j <;> simp [h]
  rw [e]; exact q
theorem op_neA (hu : X.A.units + 64 < cLine) : OpR X (compareOp .NotEq) (rEqA X.K true) := by
  refine OpR.or (fun pins s σ H x y v u Q I rx ry h => ?_) (op_neD hu)
  obtain ⟨i, j, e1, e2, q⟩ := h
  subst e1; subst e2
  refine op_ne pins s σ H _ _ v u Q I rx ry ⟨rfl, ?_⟩
  have e : decide (V.str i = V.str j) = decide (i = j) := by by_cases h : i = j <;> simp [h]
  rw [e]; exact q
theorem eqS {neg : Bool} {Hs H : Hp} {x y : V} {d e : D} {b : Bool} {Q : VK} (ex : Ex Hs H) (rx : Rp K Hs x d) (ry : Rp K Hs y e) (hg : dEqB d e = some b) (q : Q (.bl (if neg then !b else b)) H) : rEqA K neg x y H Q := by
  have gen : (if SeqAt.shaped d = true ∧ SeqAt.shaped e = true then some (PyData.eqv d e) else none) = some b → rEqA K neg x y H Q := fun h => by
    simp only [Option.ite_none_right_eq_some, Option.some.injEq] at h
    obtain ⟨⟨h1, h2⟩, h⟩ := h
    exact .inr ⟨d, e, (rx.ex ex).dp, (ry.ex ex).dp, h1, h2, by rw [h]; exact q⟩
  by_cases hs : ∃ i j, d = .str i ∧ e = .str j
  · obtain ⟨i, j, e1, e2⟩ := hs
    subst e1; subst e2
    cases rx
    cases ry
    have hb : decide (i = j) = b := Option.some.inj hg
    exact .inl ⟨i, j, rfl, rfl, by rw [hb]; exact q⟩
  · refine gen ?_
    rw [← hg]
    cases d <;> first | rfl | (cases e <;> first | rfl | exact absurd ⟨_, _, rfl, rfl⟩ hs)
theorem os_eq : OpS K (rEqA K false) dEq := fun Hs H x y d e c Q ex rx ry hg k => by
  unfold dEq at hg
  cases h : dEqB d e with
  | none => rw [h] at hg; simp at hg
  | some b =>
    rw [h] at hg
    have hc : PyData.bool b = c := by simpa using hg
    subst hc
    exact eqS ex rx ry h (k _ Hs H (.refl ex) (.bl _))
theorem os_ne : OpS K (rEqA K true) dNe := fun Hs H x y d e c Q ex rx ry hg k => by
  unfold dNe at hg
  cases h : dEqB d e with
  | none => rw [h] at hg; simp at hg
  | some b =>
    rw [h] at hg
    have hc : PyData.bool (!b) = c := by simpa using hg
    subst hc
    exact eqS ex rx ry h (k _ Hs H (.refl ex) (.bl _))
theorem ob_eq : OpB K (rEqA K false) dEq := fun Hs H x y d e k Q ex rx ry hg q => by
  unfold dEq at hg
  cases h : dEqB d e with
  | none => rw [h] at hg; simp at hg
  | some b =>
    rw [h] at hg
    have hk : b = k := by simpa [toB] using hg
    subst hk
    exact eqS ex rx ry h q
/-- order: ints, texts -/
def dOrd (f : Int → Int → Bool) (g : Str → Str → Bool) : D → D → Option D
  | .int i, .int j => some (.bool (f i j))
  | .str x, .str y => some (.bool (g x y))
  | _, _ => none
def rOrd (f : Int → Int → Bool) (g : Str → Str → Bool) : R2 := fun x y H Q => (rI0 fun i j => .bl (f i j)) x y H Q ∨ (∃ i j, x = .str i ∧ y = .str j ∧ Q (.bl (g i j)) H)
theorem os_ord {f : Int → Int → Bool} {g : Str → Str → Bool} : OpS K (rOrd f g) (dOrd f g) := fun Hs H x y d e c Q ex rx ry hg k => by
  cases rx with
  | int i =>
    cases ry <;> simp [dOrd] at hg
    subst hg
    exact .inl ⟨i, _, rfl, rfl, k _ Hs H (.refl ex) (.bl _)⟩
  | str z =>
    cases ry <;> simp [dOrd] at hg
    subst hg
    exact .inr ⟨z, _, rfl, rfl, k _ Hs H (.refl ex) (.bl _)⟩
  | _ => cases ry <;> simp [dOrd] at hg
theorem ob_ord {f : Int → Int → Bool} {g : Str → Str → Bool} : OpB K (rOrd f g) (dOrd f g) := fun Hs H x y d e k Q ex rx ry hg q => by
  cases rx with
  | int i =>
    cases ry <;> simp [dOrd, toB] at hg
    subst hg
    exact .inl ⟨i, _, rfl, rfl, q⟩
  | str z =>
    cases ry <;> simp [dOrd, toB] at hg
    subst hg
    exact .inr ⟨z, _, rfl, rfl, q⟩
  | _ => cases ry <;> simp [dOrd] at hg
abbrev dLt := dOrd (fun i j => decide (i < j)) (fun x y => decide (x.cps.toList < y.cps.toList))
abbrev dLe := dOrd (fun i j => decide (i ≤ j)) (fun x y => !decide (y.cps.toList < x.cps.toList))
abbrev dGt := dOrd (fun i j => decide (j < i)) (fun x y => decide (y.cps.toList < x.cps.toList))
abbrev dGe := dOrd (fun i j => decide (j ≤ i)) (fun x y => !decide (x.cps.toList < y.cps.toList))
theorem op_ltA : OpR X (compareOp .Lt) (rOrd (fun i j => decide (i < j)) (fun x y => decide (x.cps.toList < y.cps.toList))) := op_lt.or op_lt_str
theorem op_leA : OpR X (compareOp .LtE) (rOrd (fun i j => decide (i ≤ j)) (fun x y => !decide (y.cps.toList < x.cps.toList))) := op_le.or op_le_str
theorem op_gtA : OpR X (compareOp .Gt) (rOrd (fun i j => decide (j < i)) (fun x y => decide (y.cps.toList < x.cps.toList))) := op_gt.or op_gt_str
theorem op_geA : OpR X (compareOp .GtE) (rOrd (fun i j => decide (j ≤ i)) (fun x y => !decide (x.cps.toList < y.cps.toList))) := op_ge.or op_ge_str

def flatD : D → Bool
  | .none => true
  | .bool _ => true
  | .int _ => true
  | .str _ => true
  | _ => false
theorem flat_v {H : Hp} {v : V} {d : D} (r : Rp K H v d) (h : flatD d = true) : flatV v = true := by
  cases r <;> first | rfl | exact absurd h (by simp [flatD])
theorem flat_vs {H : Hp} : ∀ {vs : List V} {ds : List D}, Rps K H vs ds → ds.all flatD = true → vs.all flatV = true
  | _, _, .nil, _ => rfl
  | _, _, .cons r t, h => by
    rw [List.all_cons, Bool.and_eq_true] at h ⊢
    exact ⟨flat_v r h.1, flat_vs t h.2⟩
theorem eqv_v {H : Hp} {v w : V} {d e : D} (r : Rp K H v d) (q : Rp K H w e) (h : flatD d = true) (h' : flatD e = true) : eqV v w = PyData.eqv d e := by
  cases r <;> cases q <;> first | (simp [flatD] at h; done) | (simp [flatD] at h'; done) | (simp [eqV, PyData.eqv])
def inD (d : D) (ds : List D) : Bool := ds.any fun z => PyData.eqv z d
theorem in_v {H : Hp} {v : V} {d : D} (r : Rp K H v d) (h : flatD d = true) : ∀ {vs : List V} {ds : List D}, Rps K H vs ds → ds.all flatD = true → inV v vs = inD d ds
  | _, _, .nil, _ => rfl
  | _, _, .cons q t, h' => by
    rw [List.all_cons, Bool.and_eq_true] at h'
    have ih := in_v r h t h'.2
    unfold inV inD at ih ⊢
    rw [List.any_cons, List.any_cons, eqv_v q r h'.1 h, ih]
/-- a text in a text -/
def strIn (x y : Str) : Bool := match x.cps.toList with
  | [c] => decide (c ∈ y.cps.toList)
  | _ => !(Builtin.Str.occurrences y x 0 y.length 1).isEmpty
def dInB : D → D → Option Bool
  | .str x, .str y => some (strIn x y)
  | d, .list ds => if flatD d = true ∧ ds.all flatD = true then some (inD d ds) else none
  | d, .tuple ds => if flatD d = true ∧ ds.all flatD = true then some (inD d ds) else none
  | _, _ => none
def dIn (d e : D) : Option D := (dInB d e).map PyData.bool
def dNotIn (d e : D) : Option D := (dInB d e).map fun b => PyData.bool (!b)
def rInA (K : Frag) (neg : Bool) : R2 := fun x y H Q => rIn K neg x y H Q ∨ (∃ (c : Nat) (z : Str), x = .str ⟨#[c]⟩ ∧ y = .str z ∧ Q (.bl (if neg then !decide (c ∈ z.cps.toList) else decide (c ∈ z.cps.toList))) H) ∨
  (∃ i j, x = .str i ∧ y = .str j ∧ Q (.bl (if neg then !(!(Builtin.Str.occurrences j i 0 j.length 1).isEmpty) else !(Builtin.Str.occurrences j i 0 j.length 1).isEmpty)) H)
theorem op_inA : OpR X (compareOp .In) (rInA X.K false) := op_in_seq.or (op_in_sign.or op_in_str)
theorem op_notInA : OpR X (compareOp .NotIn) (rInA X.K true) := op_notIn_seq.or (op_notIn_sign.or L2.op_notIn_str)
theorem strIn_one {x y : Str} {c : Nat} (h : x = ⟨#[c]⟩) : strIn x y = decide (c ∈ y.cps.toList) := by subst h; rfl
theorem inS {neg : Bool} {Hs H : Hp} {x y : V} {d e : D} {b : Bool} {Q : VK} (ex : Ex Hs H) (rx : Rp K Hs x d) (ry : Rp K Hs y e) (hg : dInB d e = some b) (q : Q (.bl (if neg then !b else b)) H) : rInA K neg x y H Q := by
  have seq : ∀ {p : Addr} {vs : List V} {ds : List D}, y = .ref p → (SqL K H p vs ∨ SqT K H p vs) → Rps K Hs vs ds → (if flatD d = true ∧ ds.all flatD = true then some (inD d ds) else none) = some b → rInA K neg x y H Q := fun {p vs ds} ey hs t h => by
    simp only [Option.ite_none_right_eq_some, Option.some.injEq] at h
    obtain ⟨⟨h1, h2⟩, h⟩ := h
    refine .inl ⟨p, vs, ey, hs, flat_v rx h1, flat_vs t h2, ?_⟩
    rw [in_v rx h1 t h2, h]
    exact q
  cases ry with
  | str z =>
    cases rx with
    | str x =>
      have hb : strIn x z = b := Option.some.inj hg
      by_cases hx : ∃ c, x = ⟨#[c]⟩
      · obtain ⟨c, hc⟩ := hx
        rw [strIn_one hc] at hb
        exact .inr (.inl ⟨c, z, by rw [hc], rfl, by rw [hb]; exact q⟩)
      · refine .inr (.inr ⟨x, z, rfl, rfl, ?_⟩)
        have hb' : (!(Builtin.Str.occurrences z x 0 z.length 1).isEmpty) = b := by
          rw [← hb]
          unfold strIn
          split
          · rename_i c hc
            refine absurd ⟨c, ?_⟩ hx
            cases x with
            | mk cps =>
              have : cps = #[c] := by rw [← Array.toList_inj]; exact hc
              rw [this]
          · rfl
        rw [hb']
        exact q
    | _ => simp [dInB] at hg
  | lst h1 t1 => exact seq rfl (.inl (sqL_ex ex h1)) t1 (by cases rx <;> simpa [dInB] using hg)
  | tup h1 t1 => exact seq rfl (.inr (sqT_ex ex h1)) t1 (by cases rx <;> simpa [dInB] using hg)
  | _ => cases rx <;> simp [dInB] at hg
theorem os_in : OpS K (rInA K false) dIn := fun Hs H x y d e c Q ex rx ry hg k => by
  unfold dIn at hg
  cases h : dInB d e with
  | none => rw [h] at hg; simp at hg
  | some b =>
    rw [h] at hg
    have hc : PyData.bool b = c := by simpa using hg
    subst hc
    exact inS ex rx ry h (k _ Hs H (.refl ex) (.bl _))
theorem os_notIn : OpS K (rInA K true) dNotIn := fun Hs H x y d e c Q ex rx ry hg k => by
  unfold dNotIn at hg
  cases h : dInB d e with
  | none => rw [h] at hg; simp at hg
  | some b =>
    rw [h] at hg
    have hc : PyData.bool (!b) = c := by simpa using hg
    subst hc
    exact inS ex rx ry h (k _ Hs H (.refl ex) (.bl _))
@[reducible] def isN : D → Bool
  | .none => true
  | _ => false
def dIsB : D → D → Option Bool
  | .bool a, .bool b => some (decide (a = b))
  | d, .none => some (isN d)
  | _, _ => none
def dIs (d e : D) : Option D := (dIsB d e).map PyData.bool
def dIsNot (d e : D) : Option D := (dIsB d e).map fun b => PyData.bool (!b)
def rIs (neg : Bool) : R2 := fun x y H Q => (y = .non ∧ Q (.bl (if neg then !decide (x = .non) else decide (x = .non))) H) ∨ ∃ a b, x = .bl a ∧ y = .bl b ∧ Q (.bl (if neg then !decide (a = b) else decide (a = b))) H
theorem op_isA : OpR X (compareOp .Is) (rIs false) := op_isN.or op_is_bl
theorem op_isNotA : OpR X (compareOp .IsNot) (rIs true) := op_notN.or op_isnot_bl
theorem isN_v {H : Hp} {v : V} {d : D} (r : Rp K H v d) : decide (v = .non) = isN d := by
  cases r <;> simp [isN]
theorem isS {neg : Bool} {Hs H : Hp} {x y : V} {d e : D} {b : Bool} {Q : VK} (rx : Rp K Hs x d) (ry : Rp K Hs y e) (hg : dIsB d e = some b) (q : Q (.bl (if neg then !b else b)) H) : rIs neg x y H Q := by
  cases ry with
  | non =>
    have hb : isN d = b := by cases rx <;> simpa [dIsB] using hg
    refine .inl ⟨rfl, ?_⟩
    rw [isN_v rx, hb]
    exact q
  | bl z =>
    cases rx with
    | bl a =>
      have hb : decide (a = z) = b := Option.some.inj hg
      refine .inr ⟨a, z, rfl, rfl, ?_⟩
      rw [hb]
      exact q
    | _ => simp [dIsB] at hg
  | _ => cases rx <;> simp [dIsB] at hg
theorem os_is : OpS K (rIs false) dIs := fun Hs H x y d e c Q ex rx ry hg k => by
  unfold dIs at hg
  cases h : dIsB d e with
  | none => rw [h] at hg; simp at hg
  | some b =>
    rw [h] at hg
    have hc : PyData.bool b = c := by simpa using hg
    subst hc
    exact isS rx ry h (k _ Hs H (.refl ex) (.bl _))
theorem os_isNot : OpS K (rIs true) dIsNot := fun Hs H x y d e c Q ex rx ry hg k => by
  unfold dIsNot at hg
  cases h : dIsB d e with
  | none => rw [h] at hg; simp at hg
  | some b =>
    rw [h] at hg
    have hc : PyData.bool (!b) = c := by simpa using hg
    subst hc
    exact isS rx ry h (k _ Hs H (.refl ex) (.bl _))

def dIx : D → D → Option D
  | .list xs, .int i => atI xs i
  | .tuple xs, .int i => atI xs i
  | .str z, .int i => if z.length ≤ sizeLine then (atI z.cps.toList i).map fun c => .str ⟨#[c]⟩ else none
  | _, _ => none
theorem atI_rps {H : Hp} {vs : List V} {ds : List D} {i : Int} {d : D} (t : Rps K H vs ds) (h : atI ds i = some d) : ∃ v, atI vs i = some v ∧ Rp K H v d := by
  unfold atI at h ⊢
  rw [t.length]
  cases q : ixN ds.length i with
  | none => rw [q] at h; simp at h
  | some j =>
    rw [q] at h
    simp only [Option.bind_some] at h ⊢
    exact t.get h
theorem os_ix : OpS K (rIx K) dIx := fun Hs H x y d e c Q ex rx ry hg k => by
  cases ry with
  | int i =>
    cases rx with
    | lst h t =>
      obtain ⟨v, h1, h2⟩ := atI_rps t hg
      exact .inl ⟨_, _, i, v, rfl, rfl, sqL_ex ex h, h1, k v Hs H (.refl ex) h2⟩
    | tup h t =>
      obtain ⟨v, h1, h2⟩ := atI_rps t hg
      exact .inr (.inl ⟨_, _, i, v, rfl, rfl, sqT_ex ex h, h1, k v Hs H (.refl ex) h2⟩)
    | str z =>
      simp only [dIx, Option.ite_none_right_eq_some, Option.map_eq_some_iff] at hg
      obtain ⟨hl, a, ha, hg⟩ := hg
      subst hg
      exact .inr (.inr ⟨z, i, a, rfl, rfl, hl, ha, k _ Hs H (.refl ex) (.str _)⟩)
    | _ => simp [dIx] at hg
  | _ => cases rx <;> simp [dIx] at hg
def cutD (xs : List D) (lo hi : Option Int) : List D := (xs.drop (HT.sIx xs.length 0 lo)).take (HT.sIx xs.length xs.length hi - HT.sIx xs.length 0 lo)
def dSl (d : D) (lo hi : Option Int) : Option D := match d with
  | .str z => if z.length ≤ sizeLine then some (.str (cutS z lo hi)) else none
  | .tuple xs => some (.tuple (cutD xs lo hi))
  | .list xs => some (.list (cutD xs lo hi))
  | _ => none
theorem cut_rps {H : Hp} {vs : List V} {ds : List D} {lo hi : Option Int} (t : Rps K H vs ds) : Rps K H (cutV vs lo hi) (cutD ds lo hi) := by
  unfold cutV cutD
  rw [t.length]
  exact (t.drop _).take _
def rSlZ (K : Frag) : V → Option Int → Option Int → Hp → VK → Prop := fun x lo hi H Q => rSlS x lo hi H Q ∨ rSlA K x lo hi H Q ∨ rSlL K x lo hi H Q
theorem sl_Z : SlR X (rSlZ X.K) := sl_str.or (sl_tupA.or sl_list)
theorem sl_whole {xs : List D} {lo hi : Option Int} (h : HT.sIx xs.length 0 lo = 0 ∧ HT.sIx xs.length xs.length hi = xs.length) : cutD xs lo hi = xs := by
  unfold cutD
  rw [h.1, h.2]
  simp
theorem slS {Hs H : Hp} {x : V} {d c : D} {lo hi : Option Int} {Q : VK} (ex : Ex Hs H) (rx : Rp K Hs x d) (hg : dSl d lo hi = some c) (k : ∀ v Hs' H', Gr Hs H Hs' H' → Rp K Hs' v c → Q v H') : rSlZ K x lo hi H Q := by
  cases rx with
  | str z =>
    simp only [dSl, Option.ite_none_right_eq_some, Option.some.injEq] at hg
    obtain ⟨hl, hg⟩ := hg
    subst hg
    exact .inl ⟨z, rfl, hl, k _ Hs H (.refl ex) (.str _)⟩
  | tup h t =>
    obtain rfl := Option.some.inj hg
    refine .inr (.inl ⟨_, _, rfl, sqT_ex ex h, fun z => ?_, fun z p hp => ?_⟩)
    · rw [t.length] at z
      rw [sl_whole z] at k
      exact k _ Hs H (.refl ex) (.tup h t)
    · exact k _ _ _ (Gr.new ex hp) (.tup (SqT.of upd_same) ((cut_rps t).ex (Gr.new ex hp).s))
  | lst h t =>
    obtain rfl := Option.some.inj hg
    refine .inr (.inr ⟨_, _, rfl, sqL_ex ex h, fun p hp => ?_⟩)
    exact k _ _ _ (Gr.new ex hp) (.lst (SqL.of upd_same) ((cut_rps t).ex (Gr.new ex hp).s))
  | _ => simp [dSl] at hg
end

section
variable {X : Cx} {E : XQ} {ps : List Nat} {a b e : Expr} {pos : Pos} {ma mb m : M D}
theorem je_ix (ha : PE X a (tOf X.K E ps ma)) (hb : PE X b (tOf X.K E ps mb)) (hs : PlainIx b) : PE X (.Subscript a b pos) (tOf X.K E ps (mBin dIx ma mb)) :=
  pe_imp (pe_ix ix_seq ha hb hs) fun _ _ _ h => binS os_ix h
/-- a part of a slice -/
def tOfP (K : Frag) (E : XQ) (ps : List Nat) (m : M (Option Int)) : TO := fun σ H Q => Cf K E ps m σ H fun _ o _ H' _ => Q o H'
def toI : D → Option (Option Int)
  | .int i => some (some i)
  | _ => none
def mPart (m : M D) : M (Option Int) := mBind m fun d => mOpt (toI d)
def mNoPart : M (Option Int) := mPure none
theorem jp_none : PO X none (tOfP X.K E ps mNoPart) := ⟨fun pins s σ H Q I ⟨W, Hs, δ, hp, re, po⟩ => po_none.run pins s σ H Q I (Post.of po re)⟩
theorem jp_some (h : PE X e (tOf X.K E ps m)) : PO X (some e) (tOfP X.K E ps (mPart m)) := ⟨fun pins s σ H Q I ⟨W, Hs, δ, hp, re, po⟩ => (po_some h).run pins s σ H Q I (by
  refine tOf.step hp re po fun x d Hs1 H1 δ1 e1 re1 r1 po1 => ?_
  obtain ⟨c, hc, po3⟩ := Post.opt po1
  cases r1 <;> simp [toI] at hc
  subst hc
  exact ⟨_, rfl, Post.of po3 re1⟩)⟩
def mSl (m : M D) (ml mh : M (Option Int)) : M D := mBind m fun d => mBind ml fun l => mBind mh fun h => mOpt (dSl d l h)
theorem je_slice {lo hi : Option Expr} {ml mh : M (Option Int)} {p2 : Pos} (he : PE X e (tOf X.K E ps m)) (hl : PO X lo (tOfP X.K E ps ml)) (hu : PO X hi (tOfP X.K E ps mh)) : PE X (.Subscript e (.Slice lo hi none p2) pos) (tOf X.K E ps (mSl m ml mh)) :=
  pe_imp (pe_slice sl_Z he hl hu) fun σ H Q ⟨W, Hs, δ, hp, re, po⟩ => by
    refine tOf.step hp re po fun x d Hs1 H1 δ1 e1 re1 r1 po1 => ?_
    refine Cf.step hp re1 po1 fun l Hs2 H2 δ2 e2 re2 po2 => ?_
    refine Cf.step hp re2 po2 fun u Hs3 H3 δ3 e3 re3 po3 => ?_
    obtain ⟨c, hc, po4⟩ := Post.opt po3
    exact slS re3.ex ((r1.ex e2).ex e3) hc fun v Hs' H' g rv => Post.grow po4 re3 g v rv

variable {t1 t2 : M Bool} {rest : List Expr}
def mAndT (t1 t2 : M Bool) : M Bool := mBind t1 fun b => if b then t2 else mPure false
def mOrT (t1 t2 : M Bool) : M Bool := mBind t1 fun b => if b then mPure true else t2
def mNotT (t : M Bool) : M Bool := mBind t fun b => mPure (!b)
theorem jt_not (h : PT X a (tOfT X.K E ps t1)) : PT X (.UnaryOp .Not a pos) (tOfT X.K E ps (mNotT t1)) :=
  pt_imp (pt_not h) fun σ H Q ⟨W, Hs, δ, hp, re, po⟩ => tOfT.step hp re po fun b Hs1 H1 δ1 e1 re1 po1 => Post.of po1 re1
theorem jw_and1 (h : PT X a (tOfT X.K E ps t1)) : PW X (.BoolOp .And [a] pos) (tOfT X.K E ps t1) := pw_and1 h
theorem jw_or1 (h : PT X a (tOfT X.K E ps t1)) : PW X (.BoolOp .Or [a] pos) (tOfT X.K E ps t1) := pw_or1 h
theorem jw_and (h : PT X a (tOfT X.K E ps t1)) (h2 : PW X (.BoolOp .And (b :: rest) pos) (tOfT X.K E ps t2)) : PW X (.BoolOp .And (a :: b :: rest) pos) (tOfT X.K E ps (mAndT t1 t2)) :=
  pw_imp (pw_and h h2) fun σ H Q ⟨W, Hs, δ, hp, re, po⟩ => tOfT.step hp re po fun b Hs1 H1 δ1 e1 re1 po1 => by
    cases b with
    | true => exact Cf.last hp re1 po1
    | false => exact Post.of po1 re1
theorem jw_or (h : PT X a (tOfT X.K E ps t1)) (h2 : PW X (.BoolOp .Or (b :: rest) pos) (tOfT X.K E ps t2)) : PW X (.BoolOp .Or (a :: b :: rest) pos) (tOfT X.K E ps (mOrT t1 t2)) :=
  pw_imp (pw_or h h2) fun σ H Q ⟨W, Hs, δ, hp, re, po⟩ => tOfT.step hp re po fun b Hs1 H1 δ1 e1 re1 po1 => by
    cases b with
    | true => exact Post.of po1 re1
    | false => exact Cf.last hp re1 po1
/-- .. as values, all True or False but the last -/
def mAndV (m1 m2 : M D) : M D := mBind (mTest m1) fun b => if b then m2 else mPure (.bool false)
def mOrV (m1 m2 : M D) : M D := mBind (mTest m1) fun b => if b then mPure (.bool true) else m2
def mNotV (m : M D) : M D := mBind (mTest m) fun b => mPure (.bool (!b))
theorem testV {W : Wd} {Hs H : Hp} {σ : L2.St} {δ : Env} {β : Type} {f : Bool → M β} {QQ : β → Hp → Hp → Env → Prop} {K : Frag} {R : V → Hp → Prop} (hp : W.pn.map (·.1) = ps) (re : RE K W Hs H σ δ) (po : Post K E W Hs σ (mBind (mTest m) f δ) QQ)
    (k : ∀ b Hs1 H1 δ1, Ex Hs Hs1 → RE K W Hs1 H1 σ δ1 → Post K E W Hs1 σ (f b δ1) QQ → R (.bl b) H1) : tOf K E ps m σ H R := by
  have po' : Post K E W Hs σ (mBind m (fun d => mBind (mOpt (toB d)) f) δ) QQ := by
    have e : mBind (mTest m) f δ = mBind m (fun d => mBind (mOpt (toB d)) f) δ := by
      unfold mTest mBind
      cases m δ <;> rfl
    rw [← e]; exact po
  refine tOf.step hp re po' fun x d Hs1 H1 δ1 e1 re1 r1 po1 => ?_
  cases r1 with
  | bl b => exact k b Hs1 H1 δ1 e1 re1 po1
  | _ => exact po1.elim
theorem je_and (h : PE X a (tOf X.K E ps ma)) (h2 : PE X (.BoolOp .And (b :: rest) pos) (tOf X.K E ps mb)) : PE X (.BoolOp .And (a :: b :: rest) pos) (tOf X.K E ps (mAndV ma mb)) :=
  pe_imp (pe_and h h2) fun σ H Q ⟨W, Hs, δ, hp, re, po⟩ => testV hp re po fun b Hs1 H1 δ1 e1 re1 po1 => ⟨b, rfl, by
    cases b with
    | true => exact Cf.last hp re1 po1
    | false => exact Post.of po1 re1 _ (.bl false)⟩
theorem je_or (h : PE X a (tOf X.K E ps ma)) (h2 : PE X (.BoolOp .Or (b :: rest) pos) (tOf X.K E ps mb)) : PE X (.BoolOp .Or (a :: b :: rest) pos) (tOf X.K E ps (mOrV ma mb)) :=
  pe_imp (pe_or h h2) fun σ H Q ⟨W, Hs, δ, hp, re, po⟩ => testV hp re po fun b Hs1 H1 δ1 e1 re1 po1 => ⟨b, rfl, by
    cases b with
    | true => exact Post.of po1 re1 _ (.bl true)
    | false => exact Cf.last hp re1 po1⟩
theorem je_one {op : BoolOp} (h : PE X a (tOf X.K E ps ma)) : PE X (.BoolOp op [a] pos) (tOf X.K E ps ma) := pe_one h
theorem je_not (h : PE X a (tOf X.K E ps ma)) : PE X (.UnaryOp .Not a pos) (tOf X.K E ps (mNotV ma)) :=
  pe_imp (pe_not h) fun σ H Q ⟨W, Hs, δ, hp, re, po⟩ => testV hp re po fun b Hs1 H1 δ1 e1 re1 po1 => ⟨b, rfl, Post.of po1 re1 _ (.bl _)⟩
def mIfE (t : M Bool) (m1 m2 : M D) : M D := mBind t fun b => if b then m1 else m2
theorem je_if {c : Expr} (hc : PT X c (tOfT X.K E ps t1)) (h : PE X a (tOf X.K E ps ma)) (h2 : PE X b (tOf X.K E ps mb)) : PE X (.IfExp c a b pos) (tOf X.K E ps (mIfE t1 ma mb)) :=
  pe_imp (pe_ifExp hc h h2) fun σ H Q ⟨W, Hs, δ, hp, re, po⟩ => tOfT.step hp re po fun b Hs1 H1 δ1 e1 re1 po1 => by
    cases b with
    | true => exact Cf.last hp re1 po1
    | false => exact Cf.last hp re1 po1
/-- -n -/
def dNeg : D → Option D
  | .int i => some (.int (-i))
  | _ => none
def mNeg (m : M D) : M D := mBind m fun d => mOpt (dNeg d)
theorem je_neg (h : PE X a (tOf X.K E ps ma)) : PE X (.UnaryOp .USub a pos) (tOf X.K E ps (mNeg ma)) :=
  pe_imp (pe_un un_neg h) fun σ H Q ⟨W, Hs, δ, hp, re, po⟩ => tOf.step hp re po fun x d Hs1 H1 δ1 e1 re1 r1 po1 => by
    obtain ⟨c, hc, po3⟩ := Post.opt po1
    cases r1 <;> simp [dNeg] at hc
    subst hc
    exact ⟨_, rfl, Post.of po3 re1 _ (.int _)⟩
variable {c : Expr} {mc : M D}
theorem je_chain {op op' : CmpOp} {r r' : R2} {g g' : D → D → Option D} (ho : OpR X (compareOp op) r) (ho' : OpR X (compareOp op') r') (hr : OpB X.K r g) (hr' : OpS X.K r' g') (ha : PE X a (tOf X.K E ps ma)) (hb : PE X b (tOf X.K E ps mb)) (hc : PE X c (tOf X.K E ps mc))
    (hm : lastMarks [op, op'] [b, c] = false := by with_unfolding_all rfl) : PE X (.Compare a [op, op'] [b, c] pos) (tOf X.K E ps (mChain g g' ma mb mc)) :=
  pe_imp (pe_chain ho ho' ha hb hc hm) fun _ _ _ h => chainS hr hr' h
theorem jt_chain {op op' : CmpOp} {r r' : R2} {g g' : D → D → Option D} (ho : OpR X (compareOp op) r) (ho' : OpR X (compareOp op') r') (hr : OpB X.K r g) (hr' : OpS X.K r' g') (ha : PE X a (tOf X.K E ps ma)) (hb : PE X b (tOf X.K E ps mb)) (hc : PE X c (tOf X.K E ps mc))
    (hm : lastMarks [op, op'] [b, c] = false := by with_unfolding_all rfl) : PT X (.Compare a [op, op'] [b, c] pos) (tOfT X.K E ps (mTest (mChain g g' ma mb mc))) :=
  pt_imp (pt_chain ho ho' ha hb hc hm) fun _ _ _ h => testS (fun _ _ _ z => chainS hr hr' z) h
end
end Dn
namespace Dn
open PySem PySem.Spec PyProof.Rows L2

inductive AM where
  | e (m : M D)
  | o (i : Nat)
def mOwn (i : Nat) : M (List D) := fun δ => match δ[i]? with
  | some (.ow xs) => .ok xs δ
  | _ => .bad
def evA : List AM → M (List Ag)
  | [] => mPure []
  | .e m :: as => mBind m fun d => mBind (evA as) fun gs => mPure (.sh d :: gs)
  | .o i :: as => mBind (mOwn i) fun _ => mBind (evA as) fun gs => mPure (.ow i :: gs)
def shs : List Ag → Option (List D)
  | [] => some []
  | .sh d :: gs => (shs gs).map (d :: ·)
  | .ow _ :: _ => none
section
variable {K : Frag} {W : Wd} {Hs H H' : Hp} {σ : L2.St} {δ : Env} {E : XQ} {ps : List Nat}
theorem shs_rps : ∀ {vs : List V} {gs : List Ag} {ds : List D}, AgR K Hs σ vs gs → shs gs = some ds → Rps K Hs vs ds
  | [], [], ds, _, h => by obtain rfl := Option.some.inj h; exact .nil
  | [], _ :: _, _, h, _ => h.elim
  | _ :: _, [], _, h, _ => h.elim
  | v :: vs, .sh d :: gs, ds, h, q => by
    unfold shs at q
    cases z : shs gs with
    | none => rw [z] at q; simp at q
    | some es =>
      rw [z] at q
      have e : d :: es = ds := by simpa using q
      subst e
      exact .cons h.1 (shs_rps h.2 z)
  | _ :: _, .ow _ :: _, _, _, q => by simp [shs] at q
theorem mOwn_post {i : Nat} {β : Type} {f : List D → M β} {QQ : β → Hp → Hp → Env → Prop} (po : Post K E W Hs σ (mBind (mOwn i) f δ) QQ) : ∃ xs, δ[i]? = some (Sl.ow xs) ∧ Post K E W Hs σ (f xs δ) QQ := by
  unfold mBind mOwn at po
  split at po
  · rename_i a e' h
    split at h
    · rename_i xs hx
      cases h
      exact ⟨_, hx, po⟩
    · cases h
  · rename_i x e' h
    split at h <;> cases h
  · exact po.elim
/-- new things that no name reaches -/
theorem RE.newH (r : RE K W Hs H σ δ) (e : Ex H H') : RE K W Hs H' σ δ :=
  r.grow ⟨Ex.refl _, e, r.ex.trans e, fun _ _ => rfl⟩
/-- a fresh list becomes shared data -/
theorem RE.freeze {a : Addr} {xs : List D} (r : RE K W Hs H σ δ) (f : FrO K W Hs H σ δ a xs) : ∃ Hs', Ex Hs Hs' ∧ RE K W Hs' H σ δ ∧ Rp K Hs' (.ref a) (.list xs) := by
  obtain ⟨vs, h1, h2⟩ := f.at_
  have e : Ex Hs (upd Hs a (.lst vs)) := ex_new f.hs
  refine ⟨upd Hs a (.lst vs), e, ?_, .lst (SqL.of upd_same) (h2.ex e)⟩
  exact {
    ex := fun b o q => by
      by_cases hb : b = a
      · subst hb; rw [upd_same] at q; cases q; exact h1
      · rw [upd_ne hb] at q; exact r.ex b o q
    fg := fun b o q => by
      have hb : b ≠ a := fun z => by rw [z, f.g] at q; cases q
      rw [upd_ne hb]; exact r.fg b o q
    len := r.len
    sh := fun i d q => by
      obtain ⟨v, q1, q2⟩ := r.sh i d q
      exact ⟨v, q1, q2.ex e⟩
    ow := fun i s q w => by
      obtain ⟨b, o, q1, q2, q3, q4, q5⟩ := r.ow i s q w
      have hb : b ≠ a := fun z => f.ne i s q w (z ▸ q1)
      exact ⟨b, o, q1, q2, q3.ex e, by rw [upd_ne hb]; exact q4, q5⟩
    ap := r.ap
    pin := r.pin }
end
section
variable {X : Cx} {E : XQ} {ps : List Nat} {a b e o : Expr} {es : List Expr} {pos : Pos} {ma mb m : M D} {as : List AM}
theorem ja_nil : PA X [] (tOfA X.K E ps (evA [])) := pa_imp pa_nil fun σ H Q ⟨W, Hs, δ, hp, re, po⟩ => Post.of po re [] trivial
theorem ja_e (h : PE X e (tOf X.K E ps m)) (t : PA X es (tOfA X.K E ps (evA as))) (hs : starEach (e :: es) X.env = (false, eval e X.env) :: starEach es X.env := by rfl) : PA X (e :: es) (tOfA X.K E ps (evA (.e m :: as))) :=
  pa_imp (pa_cons h t hs) fun σ H Q ⟨W, Hs, δ, hp, re, po⟩ => tOf.step hp re po fun v d Hs1 H1 δ1 e1 re1 r1 po1 => tOfA.step hp re1 po1 fun vs gs Hs2 H2 δ2 e2 re2 r2 po2 => Post.of po2 re2 (v :: vs) ⟨r1.ex e2, r2⟩
theorem ja_o {i : Nat} {x : Str} {p : Pos} (hN : X.N[i]? = some x) (hv : Vis X.env.scope x) (t : PA X es (tOfA X.K E ps (evA as))) (hs : starEach ((.Name x p) :: es) X.env = (false, eval (.Name x p) X.env) :: starEach es X.env := by rfl)
    (hd : (x == ("__debug__" : Str)) = false := by decide) (hcd : (x == ("__classdict__" : Str)) = false := by decide) : PA X ((.Name x p) :: es) (tOfA X.K E ps (evA (.o i :: as))) :=
  pa_imp (pa_cons (pe_var hN hv hd hcd) t hs) fun σ H Q ⟨W, Hs, δ, hp, re, po⟩ => by
    obtain ⟨xs, hx, po1⟩ := mOwn_post po
    obtain ⟨q, u, h1, _⟩ := re.ow i _ hx rfl
    exact ⟨.ref q, h1, tOfA.step hp re po1 fun vs gs Hs2 H2 δ2 e2 re2 r2 po2 => Post.of po2 re2 (.ref q :: vs) ⟨h1, r2⟩⟩

def CallS (K : Frag) (r : List V → Hp → VK → Prop) (g : List D → Option D) : Prop := ∀ Hs H vs ds c (Q : VK), Ex Hs H → Rps K Hs vs ds → g ds = some c → (∀ v Hs' H', Gr Hs H Hs' H' → Rp K Hs' v c → Q v H') → r vs H Q
def mCallB (g : List D → Option D) (as : List AM) : M D := mBind (evA as) fun gs => mOpt ((shs gs).bind g)
theorem callS {r : List V → Hp → VK → Prop} {g : List D → Option D} (hr : CallS X.K r g) {σ : L2.St} {H : Hp} {Q : VK} (h : tOf X.K E ps (mCallB g as) σ H Q) : tCB r (tOfA X.K E ps (evA as)) σ H Q := by
  obtain ⟨W, Hs, δ, hp, re, po⟩ := h
  refine tOfA.step hp re po fun vs gs Hs1 H1 δ1 e1 re1 r1 po1 => ?_
  obtain ⟨c, hc, po2⟩ := Post.opt po1
  obtain ⟨ds, h1, h2⟩ := Option.bind_eq_some_iff.mp hc
  exact hr Hs1 H1 vs ds c Q re1.ex (shs_rps r1 h1) h2 fun v Hs' H' g rv => Post.grow po2 re1 g v rv
theorem je_callB {x : Str} {p : Pos} {id : String} {r : List V → Hp → VK → Prop} {g : List D → Option D} (hc : CallR X (.builtin id) r) (hr : CallS X.K r g) (hg : Gl X x) (hm : X.mg x = none) (hv : bootBuiltins x = some (.builtin id)) (ha : PA X (e :: es) (tOfA X.K E ps (evA as))) (hn : x ≠ "__name__" := by decide) (hdb : (x == ("__debug__" : Str)) = false := by decide)
    (he : starEach (e :: es) X.env = (false, eval e X.env) :: starEach es X.env := by rfl) (hpl : (backTo pos (starEach es X.env)).any (·.1) = false := by rfl) : PE X (.Call (.Name x p) (e :: es) [] pos) (tOf X.K E ps (mCallB g as)) :=
  pe_imp (pe_callB hc hg hm hv ha hn hdb he hpl) fun _ _ _ h => callS hr h
theorem je_callTy {x : Str} {p : Pos} {T : String} {r : List V → Hp → VK → Prop} {g : List D → Option D} (hc : CallR X (.type T) r) (hr : CallS X.K r g) (hg : Gl X x) (hm : X.mg x = none) (hv : bootBuiltins x = some (.type T)) (ha : PA X (e :: es) (tOfA X.K E ps (evA as))) (hn : x ≠ "__name__" := by decide) (hdb : (x == ("__debug__" : Str)) = false := by decide)
    (he : starEach (e :: es) X.env = (false, eval e X.env) :: starEach es X.env := by rfl) (hpl : (backTo pos (starEach es X.env)).any (·.1) = false := by rfl) : PE X (.Call (.Name x p) (e :: es) [] pos) (tOf X.K E ps (mCallB g as)) :=
  pe_imp (pe_callTy hc hg hm hv ha hn hdb he hpl) fun _ _ _ h => callS hr h
/-- f(x), x a list of one's own that stays so; the answer flat -/
def mCallO (g : List D → Option D) (i : Nat) : M D := mBind (mOwn i) fun xs => mOpt ((g [.list xs]).filter flatD)
theorem flat_free {K : Frag} {H H' : Hp} {v : V} {d : D} (r : Rp K H v d) (h : flatD d = true) : Rp K H' v d := by
  cases r with
  | non => exact .non
  | bl b => exact .bl b
  | int i => exact .int i
  | str x => exact .str x
  | _ => simp [flatD] at h
theorem ex_upd {Hs H : Hp} {q : Addr} {u : HO} (e : Ex Hs H) (h : H q = some u) : Ex (upd Hs q u) H := fun c w z => by
  by_cases hc : c = q
  · subst hc; rw [upd_same] at z; cases z; exact h
  · rw [upd_ne hc] at z; exact e c w z
/-- own things lent for a while: what is handed back is flat, so nothing of them stays -/
theorem lent {K : Frag} {W : Wd} {Hs H : Hp} {σ : L2.St} {δ : Env} {i : Nat} {xs : List D} (re : RE K W Hs H σ δ) (hx : δ[i]? = some (Sl.ow xs)) :
    ∃ (q : Addr) (Hb : Hp), σ[i]? = some (some (V.ref q)) ∧ Ex Hs Hb ∧ Ex Hb H ∧ Rp K Hb (.ref q) (.list xs) ∧ H q ≠ none ∧ tyV K "list" (.ref q) H ∧ ∃ vs, H q = some (.lst vs) ∧ Rps K Hs vs xs := by
  obtain ⟨q, u, h1, h2, h3, h4, h5⟩ := re.ow i _ hx rfl
  cases u with
  | lst vs =>
    have e : Ex Hs (upd Hs q (.lst vs)) := ex_new h4
    exact ⟨q, upd Hs q (.lst vs), h1, e, ex_upd re.ex h2, .lst (SqL.of upd_same) (Rps.ex e h3), by rw [h2]; simp, .inl ⟨rfl, vs, .inl (.inl h2)⟩, vs, h2, h3⟩
  | _ => exact h3.elim
theorem callO {r : List V → Hp → VK → Prop} {g : List D → Option D} (hr : CallS X.K r g) {i : Nat} {σ : L2.St} {H : Hp} {Q : VK} (h : tOf X.K E ps (mCallO g i) σ H Q) : tCB r (tCons (tVar i) tNil) σ H Q := by
  obtain ⟨W, Hs, δ, hp, re, po⟩ := h
  obtain ⟨xs, hx, po1⟩ := mOwn_post po
  obtain ⟨c, hc, po2⟩ := Post.opt po1
  obtain ⟨h1, h2⟩ := Option.filter_eq_some_iff.mp hc
  obtain ⟨q, Hb, g1, g2, g3, g4, g5, g6, _⟩ := lent re hx
  refine ⟨_, g1, hr Hb H _ _ c Q g3 (.cons g4 .nil) h1 fun v Hs' H' gr rv => ?_⟩
  exact Post.grow po2 re ⟨Ex.refl _, gr.h, re.ex.trans gr.h, fun _ _ => rfl⟩ v (flat_free rv h2)
theorem je_callBO {x y : Str} {p p' : Pos} {i : Nat} {id : String} {r : List V → Hp → VK → Prop} {g : List D → Option D} (hc : CallR X (.builtin id) r) (hr : CallS X.K r g) (hg : Gl X x) (hm : X.mg x = none) (hv : bootBuiltins x = some (.builtin id)) (hN : X.N[i]? = some y) (hvis : Vis X.env.scope y)
    (hd : (y == ("__debug__" : Str)) = false := by decide) (hcd : (y == ("__classdict__" : Str)) = false := by decide) (hn : x ≠ "__name__" := by decide) (hdb : (x == ("__debug__" : Str)) = false := by decide)
    (he : starEach [.Name y p'] X.env = (false, eval (.Name y p') X.env) :: starEach [] X.env := by rfl) (hpl : (backTo pos (starEach [] X.env)).any (·.1) = false := by rfl) : PE X (.Call (.Name x p) [.Name y p'] [] pos) (tOf X.K E ps (mCallO g i)) :=
  pe_imp (pe_callB hc hg hm hv (pa_cons (pe_var hN hvis hd hcd) pa_nil) hn hdb he hpl) fun _ _ _ h => callO hr h

def bLen : List D → Option D
  | [.str z] => if z.length ≤ sizeLine then some (.int z.length) else none
  | [.list xs] => some (.int xs.length)
  | [.tuple xs] => some (.int xs.length)
  | _ => none
def rLenA (K : Frag) : List V → Hp → VK → Prop := fun xs H Q => (∃ p ys, xs = [.ref p] ∧ (SqL K H p ys ∨ SqT K H p ys) ∧ Q (.int ys.length) H) ∨ ∃ z, xs = [.str z] ∧ z.length ≤ sizeLine ∧ Q (.int z.length) H
theorem call_lenA : CallR X (.builtin "len") (rLenA X.K) := call_len_seq.or call_len_str
theorem cs_len {K : Frag} : CallS K (rLenA K) bLen := fun Hs H vs ds c Q ex t hg k => by
  cases t with
  | nil => simp [bLen] at hg
  | cons r t =>
    cases t with
    | cons _ _ => cases r <;> simp [bLen] at hg
    | nil =>
      cases r with
      | str z =>
        simp only [bLen, Option.ite_none_right_eq_some, Option.some.injEq] at hg
        obtain ⟨hl, hg⟩ := hg
        subst hg
        exact .inr ⟨z, rfl, hl, k _ Hs H (.refl ex) (.int _)⟩
      | lst h t =>
        obtain rfl := Option.some.inj hg
        exact .inl ⟨_, _, rfl, .inl (sqL_ex ex h), by rw [t.length]; exact k _ Hs H (.refl ex) (.int _)⟩
      | tup h t =>
        obtain rfl := Option.some.inj hg
        exact .inl ⟨_, _, rfl, .inr (sqT_ex ex h), by rw [t.length]; exact k _ Hs H (.refl ex) (.int _)⟩
      | _ => simp [bLen] at hg
def bInt : List D → Option D
  | [.int i] => some (.int i)
  | [.bool b] => some (.int (if b then 1 else 0))
  | _ => none
theorem cs_int {K : Frag} : CallS K (fun xs H Q => (∃ i, xs = [.int i] ∧ Q (.int i) H) ∨ ∃ k, xs = [.bl k] ∧ Q (.int (if k then 1 else 0)) H) bInt := fun Hs H vs ds c Q ex t hg k => by
  cases t with
  | nil => simp [bInt] at hg
  | cons r t =>
    cases t with
    | cons _ _ => cases r <;> simp [bInt] at hg
    | nil =>
      cases r with
      | int i =>
        obtain rfl := Option.some.inj hg
        exact .inl ⟨i, rfl, k _ Hs H (.refl ex) (.int _)⟩
      | bl b =>
        obtain rfl := Option.some.inj hg
        exact .inr ⟨b, rfl, k _ Hs H (.refl ex) (.int _)⟩
      | _ => simp [bInt] at hg
def bII (f : Int → Int → Int) : List D → Option D
  | [.int i, .int j] => some (.int (f i j))
  | _ => none
theorem cs_II {K : Frag} {f : Int → Int → Int} : CallS K (fun xs H Q => ∃ i j, xs = [.int i, .int j] ∧ Q (.int (f i j)) H) (bII f) := fun Hs H vs ds c Q ex t hg k => by
  cases t with
  | nil => simp [bII] at hg
  | cons r t =>
    cases t with
    | nil => cases r <;> simp [bII] at hg
    | cons r' t =>
      cases t with
      | cons _ _ => cases r <;> cases r' <;> simp [bII] at hg
      | nil =>
        cases r <;> cases r' <;> simp [bII] at hg
        subst hg
        exact ⟨_, _, rfl, k _ Hs H (.refl ex) (.int _)⟩
def bTuple : List D → Option D
  | [.list xs] => some (.tuple xs)
  | [.tuple xs] => some (.tuple xs)
  | _ => none
theorem cs_tuple {K : Frag} : CallS K (fun xs H Q => ∃ p ys, xs = [.ref p] ∧ ((SqL K H p ys ∧ ∀ l, H l = none → Q (.ref l) (upd H l (.tup ys))) ∨ (SqT K H p ys ∧ Q (.ref p) H))) bTuple := fun Hs H vs ds c Q ex t hg k => by
  cases t with
  | nil => simp [bTuple] at hg
  | cons r t =>
    cases t with
    | cons _ _ => cases r <;> simp [bTuple] at hg
    | nil =>
      cases r with
      | lst h t =>
        obtain rfl := Option.some.inj hg
        exact ⟨_, _, rfl, .inl ⟨sqL_ex ex h, fun p hp => k _ _ _ (Gr.new ex hp) (.tup (SqT.of upd_same) (t.ex (Gr.new ex hp).s))⟩⟩
      | tup h t =>
        obtain rfl := Option.some.inj hg
        exact ⟨_, _, rfl, .inr ⟨sqT_ex ex h, k _ Hs H (.refl ex) (.tup h t)⟩⟩
      | _ => simp [bTuple] at hg
def bList : List D → Option D
  | [.list xs] => some (.list xs)
  | [.tuple xs] => some (.list xs)
  | _ => none
theorem cs_list {K : Frag} : CallS K (fun xs H Q => ∃ p ys, xs = [.ref p] ∧ (SqL K H p ys ∨ SqT K H p ys) ∧ ∀ l, H l = none → Q (.ref l) (upd H l (.lst ys))) bList := fun Hs H vs ds c Q ex t hg k => by
  cases t with
  | nil => simp [bList] at hg
  | cons r t =>
    cases t with
    | cons _ _ => cases r <;> simp [bList] at hg
    | nil =>
      cases r with
      | lst h t =>
        obtain rfl := Option.some.inj hg
        exact ⟨_, _, rfl, .inl (sqL_ex ex h), fun p hp => k _ _ _ (Gr.new ex hp) (.lst (SqL.of upd_same) (t.ex (Gr.new ex hp).s))⟩
      | tup h t =>
        obtain rfl := Option.some.inj hg
        exact ⟨_, _, rfl, .inr (sqT_ex ex h), fun p hp => k _ _ _ (Gr.new ex hp) (.lst (SqL.of upd_same) (t.ex (Gr.new ex hp).s))⟩
      | _ => simp [bList] at hg
/-- the truths of a list -/
def toBs : List D → Option (List Bool)
  | [] => some []
  | .bool b :: r => (toBs r).map (b :: ·)
  | _ :: _ => none
theorem toBs_eq : ∀ {ds : List D} {bs : List Bool}, toBs ds = some bs → ds = bs.map PyData.bool
  | [], bs, h => by obtain rfl := Option.some.inj h; rfl
  | d :: r, bs, h => by
    cases d with
    | bool b =>
      unfold toBs at h
      cases z : toBs r with
      | none => rw [z] at h; simp at h
      | some cs =>
        rw [z] at h
        have e : b :: cs = bs := by simpa using h
        subst e
        rw [List.map_cons, toBs_eq z]
    | _ => simp [toBs] at h
def bBools (f : List Bool → Bool) : List D → Option D
  | [.list xs] => (toBs xs).map fun bs => .bool (f bs)
  | _ => none
theorem cs_bools {K : Frag} {f : List Bool → Bool} : CallS K (fun vs H Q => ∃ (a : Addr) (bs : List Bool), vs = [V.ref a] ∧ SqL K H a (bs.map V.bl) ∧ Q (.bl (f bs)) H) (bBools f) := fun Hs H vs ds c Q ex t hg k => by
  cases t with
  | nil => simp [bBools] at hg
  | cons r t =>
    cases t with
    | cons _ _ => cases r <;> simp [bBools] at hg
    | nil =>
      cases r with
      | lst h t =>
        simp only [bBools, Option.map_eq_some_iff] at hg
        obtain ⟨bs, h1, h2⟩ := hg
        subst h2
        have e := toBs_eq h1
        subst e
        have e2 := t.bls
        subst e2
        exact ⟨_, bs, rfl, sqL_ex ex h, k _ Hs H (.refl ex) (.bl _)⟩
      | _ => simp [bBools] at hg
def toIs : List D → Option (List Int)
  | [] => some []
  | .int b :: r => (toIs r).map (b :: ·)
  | _ :: _ => none
theorem toIs_eq : ∀ {ds : List D} {bs : List Int}, toIs ds = some bs → ds = bs.map PyData.int
  | [], bs, h => by obtain rfl := Option.some.inj h; rfl
  | d :: r, bs, h => by
    cases d with
    | int b =>
      unfold toIs at h
      cases z : toIs r with
      | none => rw [z] at h; simp at h
      | some cs =>
        rw [z] at h
        have e : b :: cs = bs := by simpa using h
        subst e
        rw [List.map_cons, toIs_eq z]
    | _ => simp [toIs] at h
def toSs : List D → Option (List Str)
  | [] => some []
  | .str b :: r => (toSs r).map (b :: ·)
  | _ :: _ => none
theorem toSs_eq : ∀ {ds : List D} {bs : List Str}, toSs ds = some bs → ds = bs.map PyData.str
  | [], bs, h => by obtain rfl := Option.some.inj h; rfl
  | d :: r, bs, h => by
    cases d with
    | str b =>
      unfold toSs at h
      cases z : toSs r with
      | none => rw [z] at h; simp at h
      | some cs =>
        rw [z] at h
        have e : b :: cs = bs := by simpa using h
        subst e
        rw [List.map_cons, toSs_eq z]
    | _ => simp [toSs] at h
def bSum : List D → Option D
  | [.list xs] => (toIs xs).map fun ns => .int ns.sum
  | _ => none
theorem cs_sum {K : Frag} : CallS K (rSum K) bSum := fun Hs H vs ds c Q ex t hg k => by
  cases t with
  | nil => simp [bSum] at hg
  | cons r t =>
    cases t with
    | cons _ _ => cases r <;> simp [bSum] at hg
    | nil =>
      cases r with
      | lst h t =>
        simp only [bSum, Option.map_eq_some_iff] at hg
        obtain ⟨bs, h1, h2⟩ := hg
        subst h2
        have e := toIs_eq h1
        subst e
        have e2 := t.ints
        subst e2
        exact ⟨_, bs, rfl, sqL_ex ex h, k _ Hs H (.refl ex) (.int _)⟩
      | _ => simp [bSum] at hg

def tyD : D → String
  | .none => "NoneType"
  | .bool _ => "bool"
  | .int _ => "int"
  | .str _ => "str"
  | .list _ => "list"
  | .tuple _ => "tuple"
  | .dict _ => "dict"
theorem ty_of {K : Frag} {Hs H : Hp} {v : V} {d : D} (ex : Ex Hs H) (r : Rp K Hs v d) : TyX K H v (.type (tyD d)) := by
  cases r with
  | non => exact .base .non
  | bl b => exact .base (.bl b)
  | int i => exact .base (.int i)
  | str x => exact .base (.str x)
  | lst h t =>
    rcases sqL_ex ex h with (h | ⟨o, h⟩) | ⟨o, its, n, h1, h2, _⟩
    · exact .base (.lst h)
    · exact .base (.frz h)
    · exact .kList h1 h2
  | tup h t =>
    rcases sqT_ex ex h with (h | ⟨o, h⟩) | ⟨o, its, n, h1, h2, _⟩
    · exact .base (.tup h)
    · exact .fTuple h
    · exact .kTuple h1 h2
def mIsi (T : String) (m : M D) : M D := mBind m fun d => mOpt ((kitB (tyD d) T).map PyData.bool)
theorem je_isi {T : Str} {T' : String} {p p' : Pos} (h : PE X e (tOf X.K E ps m)) (hg : Gl X "isinstance") (hm : X.mg "isinstance" = none) (hgT : Gl X T) (hmT : X.mg T = none) (hvT : bootBuiltins T = some (.type T')) (hnT : T ≠ "__name__" := by decide) (hdT : (T == ("__debug__" : Str)) = false := by decide)
    (he : starEach (e :: [.Name T p']) X.env = (false, eval e X.env) :: starEach [.Name T p'] X.env := by rfl) (he2 : starEach [.Name T p'] X.env = (false, eval (.Name T p') X.env) :: starEach [] X.env := by rfl) (hpl : (backTo pos (starEach [.Name T p'] X.env)).any (·.1) = false := by rfl) :
    PE X (.Call (.Name "isinstance" p) [e, .Name T p'] [] pos) (tOf X.K E ps (mIsi T' m)) :=
  pe_imp (pe_callB call_isi hg hm (by decide +kernel) (pa_cons h (pa_cons (pe_bltn (v := .ty T') hgT hmT hvT rfl hnT hdT) pa_nil he2) he) (by decide) (by decide) he hpl) fun σ H Q ⟨W, Hs, δ, hp, re, po⟩ => by
    refine tOf.step hp re po fun v d Hs1 H1 δ1 e1 re1 r1 po1 => ?_
    obtain ⟨c, hc, po2⟩ := Post.opt po1
    obtain ⟨b, hb, hc⟩ := Option.map_eq_some_iff.mp hc
    subst hc
    exact ⟨v, .ty T', _, _, b, rfl, .ty T', ty_of re1.ex r1, kit_ty hb, Post.of po2 re1 _ (.bl b)⟩

def MtS (K : Frag) (r : V → List V → Hp → VK → Prop) (g : Str → List D → Option D) : Prop := ∀ Hs H z vs ds c (Q : VK), Ex Hs H → Rps K Hs vs ds → g z ds = some c → (∀ v Hs' H', Gr Hs H Hs' H' → Rp K Hs' v c → Q v H') → r (.str z) vs H Q
def toS : D → Option Str
  | .str z => some z
  | _ => none
def mM1 (g : Str → List D → Option D) (mo m : M D) : M D := mBind mo fun d => mBind (mOpt (toS d)) fun z => mBind m fun e => mOpt (g z [e])
def mM1O (g : Str → List D → Option D) (mo : M D) (i : Nat) : M D := mBind mo fun d => mBind (mOpt (toS d)) fun z => mBind (mOwn i) fun xs => mOpt ((g z [.list xs]).filter flatD)
def mM0 (g : Str → List D → Option D) (mo : M D) : M D := mBind mo fun d => mBind (mOpt (toS d)) fun z => mOpt (g z [])
theorem optB {K : Frag} {W : Wd} {Hs : Hp} {σ : L2.St} {δ : Env} {α β : Type} {oa : Option α} {f : α → M β} {QQ : β → Hp → Hp → Env → Prop} (po : Post K E W Hs σ (mBind (mOpt oa) f δ) QQ) : ∃ a, oa = some a ∧ Post K E W Hs σ (f a δ) QQ := by
  cases oa with
  | none => exact po.elim
  | some a => exact ⟨a, rfl, po⟩
theorem je_m1 {id : String} {name : Str} {apos pos : Pos} {r : V → List V → Hp → VK → Prop} {g : Str → List D → Option D} (slot : Slot "str" name id) (ty : typeOf (.builtin id) = pure (.type "method_descriptor")) (rule : MtR X id r) (hr : MtS X.K r g) (ho : PE X o (tOf X.K E ps ma)) (he : PE X e (tOf X.K E ps m))
    (hs : starEach [e] X.env = [(false, eval e X.env)] := by rfl) (hbase : attributeBase o name X.env (eval o X.env) = eval o X.env := by rfl) (hline : (apos.endLine == pos.line) = true := by rfl) : PE X (.Call (.Attribute o name apos) [e] [] pos) (tOf X.K E ps (mM1 g ma m)) :=
  pe_imp (pe_m1 slot ty rule ho he hs hbase hline) fun σ H Q ⟨W, Hs, δ, hp, re, po⟩ => by
    refine tOf.step hp re po fun v d Hs1 H1 δ1 e1 re1 r1 po1 => ?_
    obtain ⟨z, hz, po2⟩ := optB po1
    cases r1 <;> simp [toS] at hz
    subst hz
    refine ⟨⟨_, rfl⟩, tOf.step hp re1 po2 fun w c Hs2 H2 δ2 e2 re2 r2 po3 => ?_⟩
    obtain ⟨c', hc, po4⟩ := Post.opt po3
    exact hr Hs2 H2 _ _ _ c' Q re2.ex (.cons r2 .nil) hc fun v Hs' H' g rv => Post.grow po4 re2 g v rv
theorem je_m0 {id : String} {name : Str} {apos pos : Pos} {r : V → List V → Hp → VK → Prop} {g : Str → List D → Option D} (slot : Slot "str" name id) (ty : typeOf (.builtin id) = pure (.type "method_descriptor")) (rule : MtR X id r) (hr : MtS X.K r g) (ho : PE X o (tOf X.K E ps ma))
    (hbase : attributeBase o name X.env (eval o X.env) = eval o X.env := by rfl) (hline : (apos.endLine == pos.line) = true := by rfl) : PE X (.Call (.Attribute o name apos) [] [] pos) (tOf X.K E ps (mM0 g ma)) :=
  pe_imp (pe_m0 slot ty rule ho hbase hline) fun σ H Q ⟨W, Hs, δ, hp, re, po⟩ => by
    refine tOf.step hp re po fun v d Hs1 H1 δ1 e1 re1 r1 po1 => ?_
    obtain ⟨z, hz, po2⟩ := optB po1
    cases r1 <;> simp [toS] at hz
    subst hz
    obtain ⟨c', hc, po4⟩ := Post.opt po2
    exact ⟨⟨_, rfl⟩, hr Hs1 H1 _ _ _ c' Q re1.ex .nil hc fun v Hs' H' g rv => Post.grow po4 re1 g v rv⟩
theorem je_m1O {id : String} {name y : Str} {i : Nat} {apos pos p' : Pos} {r : V → List V → Hp → VK → Prop} {g : Str → List D → Option D} (slot : Slot "str" name id) (ty : typeOf (.builtin id) = pure (.type "method_descriptor")) (rule : MtR X id r) (hr : MtS X.K r g) (ho : PE X o (tOf X.K E ps ma)) (hN : X.N[i]? = some y) (hvis : Vis X.env.scope y)
    (hd : (y == ("__debug__" : Str)) = false := by decide) (hcd : (y == ("__classdict__" : Str)) = false := by decide)
    (hs : starEach [.Name y p'] X.env = [(false, eval (.Name y p') X.env)] := by rfl) (hbase : attributeBase o name X.env (eval o X.env) = eval o X.env := by rfl) (hline : (apos.endLine == pos.line) = true := by rfl) : PE X (.Call (.Attribute o name apos) [.Name y p'] [] pos) (tOf X.K E ps (mM1O g ma i)) :=
  pe_imp (pe_m1 slot ty rule ho (pe_var hN hvis hd hcd) hs hbase hline) fun σ H Q ⟨W, Hs, δ, hp, re, po⟩ => by
    refine tOf.step hp re po fun v d Hs1 H1 δ1 e1 re1 r1 po1 => ?_
    obtain ⟨z, hz, po2⟩ := optB po1
    cases r1 <;> simp [toS] at hz
    subst hz
    obtain ⟨xs, hx, po3⟩ := mOwn_post po2
    obtain ⟨c, hc, po4⟩ := Post.opt po3
    obtain ⟨h1, h2⟩ := Option.filter_eq_some_iff.mp hc
    obtain ⟨q, Hb, g1, g2, g3, g4, g5, g6, _⟩ := lent re1 hx
    exact ⟨⟨_, rfl⟩, _, g1, hr Hb H1 _ _ _ c Q g3 (.cons g4 .nil) h1 fun v Hs' H' gr rv => Post.grow po4 re1 ⟨Ex.refl _, gr.h, re1.ex.trans gr.h, fun _ _ => rfl⟩ v (flat_free rv h2)⟩
def sSplit (z : Str) : List D → Option D
  | [.str b] => if (b.length == 0) = false ∧ z.length + 2 ≤ sizeLine then some (.list ((Txt.split z b).map PyData.str)) else none
  | _ => none
theorem ms_split {K : Frag} : MtS K (fun x xs H Q => ∃ a b, x = .str a ∧ xs = [.str b] ∧ (b.length == 0) = false ∧ a.length + 2 ≤ sizeLine ∧ rNewStrs (Txt.split a b) H Q) sSplit := fun Hs H z vs ds c Q ex t hg k => by
  cases t with
  | nil => simp [sSplit] at hg
  | cons r t =>
    cases t with
    | cons _ _ => cases r <;> simp [sSplit] at hg
    | nil =>
      cases r with
      | str b =>
        simp only [sSplit, Option.ite_none_right_eq_some, Option.some.injEq] at hg
        obtain ⟨⟨h1, h2⟩, hg⟩ := hg
        subst hg
        exact ⟨z, b, rfl, rfl, h1, h2, fun p hp => k _ _ _ (Gr.new ex hp) (.lst (SqL.of upd_same) (Rps.of_strs _))⟩
      | _ => simp [sSplit] at hg
def joinN (z : Str) (ys : List Str) : Nat := (ys.map (·.length)).sum + ys.length * z.length
def sJoin (z : Str) : List D → Option D
  | [.list xs] => (toSs xs).bind fun ys => if joinN z ys ≤ 16777216 then some (.str (Txt.join z ys)) else none
  | [.tuple xs] => (toSs xs).bind fun ys => if joinN z ys ≤ 16777216 then some (.str (Txt.join z ys)) else none
  | _ => none
theorem ms_join {K : Frag} : MtS K (fun x xs H Q => ∃ a p, ∃ ys : List Str, x = .str a ∧ xs = [.ref p] ∧ (SqL K H p (ys.map V.str) ∨ SqT K H p (ys.map V.str)) ∧ (ys.map (·.length)).sum + ys.length * a.length ≤ 16777216 ∧ Q (.str (Txt.join a ys)) H) sJoin := fun Hs H z vs ds c Q ex t hg k => by
  cases t with
  | nil => simp [sJoin] at hg
  | cons r t =>
    cases t with
    | cons _ _ => cases r <;> simp [sJoin] at hg
    | nil =>
      have fin : ∀ {xs : List D}, ((toSs xs).bind fun ys => if joinN z ys ≤ 16777216 then some (.str (Txt.join z ys)) else none) = some c → ∃ ys, xs = ys.map PyData.str ∧ (ys.map (·.length)).sum + ys.length * z.length ≤ 16777216 ∧ c = .str (Txt.join z ys) := fun {xs} h => by
        obtain ⟨ys, h1, h2⟩ := Option.bind_eq_some_iff.mp h
        simp only [Option.ite_none_right_eq_some, Option.some.injEq] at h2
        exact ⟨ys, toSs_eq h1, h2.1, h2.2.symm⟩
      cases r with
      | lst h t =>
        obtain ⟨ys, e1, e2, e3⟩ := fin hg
        subst e1; subst e3
        have e4 := t.strs
        subst e4
        exact ⟨z, _, ys, rfl, rfl, .inl (sqL_ex ex h), e2, k _ Hs H (.refl ex) (.str _)⟩
      | tup h t =>
        obtain ⟨ys, e1, e2, e3⟩ := fin hg
        subst e1; subst e3
        have e4 := t.strs
        subst e4
        exact ⟨z, _, ys, rfl, rfl, .inr (sqT_ex ex h), e2, k _ Hs H (.refl ex) (.str _)⟩
      | _ => simp [sJoin] at hg

/-- x[i], x one's own -/
def mIxO (i : Nat) (m : M D) : M D := mBind (mOwn i) fun _ => mBind m fun e => mBind (mOwn i) fun xs => mOpt (dIx (.list xs) e)
theorem je_ixO {i : Nat} {x : Str} {p : Pos} (hN : X.N[i]? = some x) (hv : Vis X.env.scope x) (hb : PE X b (tOf X.K E ps m)) (hs : PlainIx b) (hd : (x == ("__debug__" : Str)) = false := by decide) (hcd : (x == ("__classdict__" : Str)) = false := by decide) : PE X (.Subscript (.Name x p) b pos) (tOf X.K E ps (mIxO i m)) :=
  pe_imp (pe_ix ix_seq (pe_var hN hv hd hcd) hb hs) fun σ H Q ⟨W, Hs, δ, hp, re, po⟩ => by
    obtain ⟨xs, hx, po1⟩ := mOwn_post po
    obtain ⟨q, Hb, g1, _⟩ := lent re hx
    refine ⟨_, g1, tOf.step hp re po1 fun v d Hs1 H1 δ1 e1 re1 r1 po2 => ?_⟩
    obtain ⟨xs', hx', po3⟩ := mOwn_post po2
    obtain ⟨q', Hb', g1', g2', g3', g4', g5', g6', vs, g7', g8'⟩ := lent re1 hx'
    have eq : q' = q := by rw [g1] at g1'; cases g1'; rfl
    subst eq
    obtain ⟨c, hc, po4⟩ := Post.opt po3
    cases r1 <;> simp only [dIx, reduceCtorEq] at hc
    obtain ⟨v, k1, k2⟩ := atI_rps g8' hc
    exact .inl ⟨_, _, _, v, rfl, rfl, .inl (.inl g7'), k1, Post.of po4 re1 v k2⟩
/-- a list of one's own becomes shared: it is not changed any more -/
def mFrz (i : Nat) : M D := mBind (mOwn i) fun xs => fun δ => .ok (.list xs) (δ.set i (.sh (.list xs)))
theorem je_frz {i : Nat} {x : Str} (hps : i ∉ ps) (hN : X.N[i]? = some x) (hv : Vis X.env.scope x) (hd : (x == ("__debug__" : Str)) = false := by decide) (hcd : (x == ("__classdict__" : Str)) = false := by decide) : PE X (.Name x pos) (tOf X.K E ps (mFrz i)) :=
  pe_imp (pe_var hN hv hd hcd) fun σ H Q ⟨W, Hs, δ, hp, re, po⟩ => by
    obtain ⟨xs, hx, po1⟩ := mOwn_post po
    obtain ⟨q, u, h1, h2, h3, h4, h5⟩ := re.ow i _ hx rfl
    cases u with
    | lst vs =>
      have hil : i < δ.length := (List.getElem?_eq_some_iff.mp hx).1
      have hpn : i ∉ W.pn.map (·.1) := by rw [hp]; exact hps
      have re0 : RE X.K W Hs H σ (δ.set i .no) := re.less (by simp) (fun j s q => by
        rcases setGet q with ⟨_, z⟩ | ⟨_, z⟩
        · exact .inl z
        · exact .inr z) fun p hpp => by
        have hne : i ≠ p.1 := fun z => hpn (z ▸ List.mem_map_of_mem hpp)
        rw [List.getElem?_set_ne hne]
      have f : FrO X.K W Hs H σ (δ.set i .no) q xs := ⟨⟨vs, h2, h3⟩, h4, h5, fun j s q w z => by
        rcases setGet q with ⟨_, zz⟩ | ⟨hj, zz⟩
        · subst zz; cases w
        · exact hj (re.ap j i s _ _ zz w hx rfl z h1)⟩
      obtain ⟨Hs', k1, k2, k3⟩ := re0.freeze f
      have re1 := k2.setSh (i := i) k3 hpn
      have e1 : (δ.set i Sl.no).set i (Sl.sh (.list xs)) = δ.set i (Sl.sh (.list xs)) := by rw [List.set_set]
      rw [e1] at re1
      have e2 : σ.set i (some (V.ref q)) = σ := by
        apply List.ext_getElem?
        intro j
        by_cases hj : j = i
        · subst hj
          rw [List.getElem?_set_self (by rw [re.len]; exact hil), h1]
        · rw [List.getElem?_set_ne (Ne.symm hj)]
      rw [e2] at re1
      exact ⟨_, h1, po1 Hs' H k1 re1 _ k3⟩
    | _ => exact h3.elim

def mShs (as : List AM) : M (List D) := mBind (evA as) fun gs => mOpt ((shs gs).filter fun ds => decide (ds.length ≤ sizeLine))
def mTup (as : List AM) : M D := mBind (mShs as) fun ds => mPure (.tuple ds)
def mLst (as : List AM) : M D := mBind (mShs as) fun ds => mPure (.list ds)
theorem mShs_step {W : Wd} {Hs H : Hp} {σ : L2.St} {δ : Env} {β : Type} {f : List D → M β} {QQ : β → Hp → Hp → Env → Prop} {K : Frag} {R : List V → Hp → Prop} (hp : W.pn.map (·.1) = ps) (re : RE K W Hs H σ δ) (po : Post K E W Hs σ (mBind (mShs as) f δ) QQ)
    (k : ∀ vs ds Hs1 H1 δ1, Ex Hs Hs1 → RE K W Hs1 H1 σ δ1 → Rps K Hs1 vs ds → vs.length ≤ sizeLine → Post K E W Hs1 σ (f ds δ1) QQ → R vs H1) : tOfA K E ps (evA as) σ H R := by
  have po' : Post K E W Hs σ (mBind (evA as) (fun gs => mBind (mOpt ((shs gs).filter fun ds => decide (ds.length ≤ sizeLine))) f) δ) QQ := by
    have e : mBind (mShs as) f δ = mBind (evA as) (fun gs => mBind (mOpt ((shs gs).filter fun ds => decide (ds.length ≤ sizeLine))) f) δ := by
      unfold mShs mBind
      cases evA as δ <;> rfl
    rw [← e]; exact po
  refine tOfA.step hp re po' fun vs gs Hs1 H1 δ1 e1 re1 r1 po1 => ?_
  obtain ⟨ds, hc, po2⟩ := optB po1
  obtain ⟨h1, h2⟩ := Option.filter_eq_some_iff.mp hc
  have t := shs_rps r1 h1
  exact k vs ds Hs1 H1 δ1 e1 re1 t (by rw [t.length]; exact of_decide_eq_true h2) po2
theorem je_tup {x1} (h : PA X es (tOfA X.K E ps (evA as))) : PE X (.Tuple es x1 pos) (tOf X.K E ps (mTup as)) :=
  pe_imp (pe_tup h) fun σ H Q ⟨W, Hs, δ, hp, re, po⟩ => mShs_step hp re po fun vs ds Hs1 H1 δ1 e1 re1 t hl po1 => ⟨hl, fun p hpn =>
    Post.grow po1 re1 (Gr.new re1.ex hpn) _ (.tup (SqT.of upd_same) (t.ex (Gr.new re1.ex hpn).s))⟩
theorem je_lst (h : PA X es (tOfA X.K E ps (evA as))) : PE X (.List es pos) (tOf X.K E ps (mLst as)) :=
  pe_imp (pe_lst h) fun σ H Q ⟨W, Hs, δ, hp, re, po⟩ => mShs_step hp re po fun vs ds Hs1 H1 δ1 e1 re1 t hl po1 => ⟨hl, fun p hpn =>
    Post.grow po1 re1 (Gr.new re1.ex hpn) _ (.lst (SqL.of upd_same) (t.ex (Gr.new re1.ex hpn).s))⟩
theorem jo_lst (h : PA X es (tOfA X.K E ps (evA as))) : PE X (.List es pos) (tOfO X.K E ps (mShs as)) :=
  pe_imp (pe_lst h) fun σ H Q ⟨W, Hs, δ, hp, re, po⟩ => by
    have po' : Post X.K E W Hs σ (mBind (mShs as) mPure δ) fun xs Hs' H' δ' => ∀ a, FrO X.K W Hs' H' σ δ' a xs → Q (.ref a) H' := by
      have e : mBind (mShs as) mPure δ = mShs as δ := by unfold mBind mPure; cases mShs as δ <;> rfl
      rw [e]; exact po
    refine mShs_step hp re po' fun vs ds Hs1 H1 δ1 e1 re1 t hl po1 => ⟨hl, fun p hpn => ?_⟩
    have en : Ex H1 (upd H1 p (.lst vs)) := ex_new hpn
    refine Post.of po1 (re1.newH en) p ⟨⟨vs, upd_same, t⟩, ex_none re1.ex hpn, ?_, fun i s q w z => ?_⟩
    · cases q : W.G p with
      | none => rfl
      | some u => have := (re1.fg p u q).1; rw [hpn] at this; cases this
    · obtain ⟨a, u, h1, h2, _⟩ := re1.ow i s q w
      rw [h1] at z
      cases z
      rw [hpn] at h2; cases h2
end
end Dn
namespace Dn
open PySem PySem.Spec PyProof.Rows L2

inductive Fl where
  | nx
  | rt (s : Sl)
  | bk
  | ct
def FlOk (K : Frag) (W : Wd) (B : Ends) (fl : Fl) (σ : L2.St) (Hs H : Hp) (δ : Env) : Prop := match fl with
  | .nx => B.nx σ H
  | .bk => B.bk σ H
  | .ct => B.ct σ H
  | .rt (.sh d) => ∀ v, Rp K Hs v d → B.rt v H
  | .rt (.ow xs) => ∀ a, FrO K W Hs H σ δ a xs → B.rt (.ref a) H
  | .rt .no => False
def PostS (K : Frag) (E : XQ) (W : Wd) (Hs : Hp) (r : Res Fl) (B : Ends) (b : Wd → Fl → L2.St → Hp → Hp → Env → Prop) : Prop := match r with
  | .ok fl δ' => ∀ σ' Hs' H', Ex Hs Hs' → RE K W Hs' H' σ' δ' → b W fl σ' Hs' H' δ'
  | .exc x δ' => ∀ σ' Hs' H', Ex Hs Hs' → RE K W Hs' H' σ' δ' → E x σ' H'
  | .bad => False
abbrev PostF (K : Frag) (E : XQ) (W : Wd) (Hs : Hp) (r : Res Fl) (B : Ends) : Prop := PostS K E W Hs r B fun W fl σ' Hs' H' δ' => FlOk K W B fl σ' Hs' H' δ'
theorem PostS.ex {K : Frag} {E : XQ} {W : Wd} {Hs Hs1 : Hp} {r : Res Fl} {B : Ends} {b : Wd → Fl → L2.St → Hp → Hp → Env → Prop} (h : PostS K E W Hs r B b) (e : Ex Hs Hs1) : PostS K E W Hs1 r B b := by
  cases r with
  | ok a δ' => exact fun σ' Hs' H' e' r => h σ' Hs' H' (e.trans e') r
  | exc x δ' => exact fun σ' Hs' H' e' r => h σ' Hs' H' (e.trans e') r
  | bad => exact h
def tOfS (K : Frag) (E : XQ) (ps : List Nat) (m : M Fl) : TS := fun B σ H => ∃ (W : Wd) (Hs : Hp) (δ : Env), W.pn.map (·.1) = ps ∧ RE K W Hs H σ δ ∧ PostF K E W Hs (m δ) B

section
variable {K : Frag} {E : XQ} {ps : List Nat} {W : Wd} {Hs H : Hp} {σ : L2.St} {δ : Env} {B : Ends}
theorem Cf.stepS {α : Type} {ma : M α} {f : α → M Fl} {R : Wd → α → Hp → Hp → Env → Prop} (hp : W.pn.map (·.1) = ps) (re : RE K W Hs H σ δ) (po : PostF K E W Hs (mBind ma f δ) B)
    (k : ∀ a Hs1 H1 δ1, Ex Hs Hs1 → RE K W Hs1 H1 σ δ1 → PostF K E W Hs1 (f a δ1) B → R W a Hs1 H1 δ1) : Cf K E ps ma σ H R := by
  refine ⟨W, Hs, δ, hp, re, ?_⟩
  unfold mBind at po
  cases h : ma δ with
  | ok a δ1 =>
    rw [h] at po
    exact fun Hs' H' e r => k a Hs' H' δ1 e r (PostS.ex po e)
  | exc x δ1 =>
    rw [h] at po
    exact fun Hs' H' e r => po σ Hs' H' e r
  | bad =>
    rw [h] at po
    exact po
theorem tOf.stepS {ma : M D} {f : D → M Fl} {R : V → Hp → Prop} (hp : W.pn.map (·.1) = ps) (re : RE K W Hs H σ δ) (po : PostF K E W Hs (mBind ma f δ) B)
    (k : ∀ v d Hs1 H1 δ1, Ex Hs Hs1 → RE K W Hs1 H1 σ δ1 → Rp K Hs1 v d → PostF K E W Hs1 (f d δ1) B → R v H1) : tOf K E ps ma σ H R :=
  Cf.stepS hp re po fun d Hs1 H1 δ1 e r p v rv => k v d Hs1 H1 δ1 e r rv p
theorem tOfO.stepS {ma : M (List D)} {f : List D → M Fl} {R : V → Hp → Prop} (hp : W.pn.map (·.1) = ps) (re : RE K W Hs H σ δ) (po : PostF K E W Hs (mBind ma f δ) B)
    (k : ∀ a xs Hs1 H1 δ1, Ex Hs Hs1 → RE K W Hs1 H1 σ δ1 → FrO K W Hs1 H1 σ δ1 a xs → PostF K E W Hs1 (f xs δ1) B → R (.ref a) H1) : tOfO K E ps ma σ H R :=
  Cf.stepS hp re po fun xs Hs1 H1 δ1 e r p a fa => k a xs Hs1 H1 δ1 e r fa p
theorem PostS.of {fl : Fl} {b : Wd → Fl → L2.St → Hp → Hp → Env → Prop} (po : PostS K E W Hs (.ok fl δ) B b) (re : RE K W Hs H σ δ) : b W fl σ Hs H δ := po σ Hs H (Ex.refl _) re
theorem optF {α : Type} {oa : Option α} {f : α → M Fl} (po : PostF K E W Hs (mBind (mOpt oa) f δ) B) : ∃ a, oa = some a ∧ PostF K E W Hs (f a δ) B := by
  cases oa with
  | none => exact po.elim
  | some a => exact ⟨a, rfl, po⟩
theorem mOwn_postF {i : Nat} {f : List D → M Fl} (po : PostF K E W Hs (mBind (mOwn i) f δ) B) : ∃ xs, δ[i]? = some (Sl.ow xs) ∧ PostF K E W Hs (f xs δ) B := by
  unfold mBind mOwn at po
  split at po
  · rename_i a e' h
    split at h
    · rename_i xs hx
      cases h
      exact ⟨_, hx, po⟩
    · cases h
  · rename_i x e' h
    split at h <;> cases h
  · exact po.elim
end

section
variable {X : Cx} {E : XQ} {ps : List Nat} {a b e : Expr} {st : Stmt} {rest : List Stmt} {pos : Pos} {m : M D} {mo : M (List D)} {m1 m2 : M Fl}
def mSeq (m1 m2 : M Fl) : M Fl := fun δ => match m1 δ with
  | .ok .nx δ' => m2 δ'
  | r => r
def mNx : M Fl := mPure .nx
theorem jss_nil : PSs X [] (tOfS X.K E ps mNx) := pss_imp pss_nil fun B σ H ⟨W, Hs, δ, hp, re, po⟩ => PostS.of po re
theorem jss_one (h : PS X st (tOfS X.K E ps m1)) : PSs X [st] (tOfS X.K E ps m1) := pss_one h
theorem jss_cons (h : PS X st (tOfS X.K E ps m1)) (t : PSs X rest (tOfS X.K E ps m2)) : PSs X (st :: rest) (tOfS X.K E ps (mSeq m1 m2)) :=
  pss_imp (pss_cons h t) fun B σ H ⟨W, Hs, δ, hp, re, po⟩ => by
    refine ⟨W, Hs, δ, hp, re, ?_⟩
    unfold mSeq at po
    cases q : m1 δ with
    | ok fl δ1 =>
      rw [q] at po
      cases fl with
      | nx => exact fun σ' Hs' H' e r => ⟨W, Hs', δ1, hp, r, PostS.ex po e⟩
      | rt s => cases s <;> exact po
      | bk => exact po
      | ct => exact po
    | exc x δ1 =>
      rw [q] at po
      exact po
    | bad =>
      rw [q] at po
      exact po
def mExpr (m : M D) : M Fl := mBind m fun _ => mNx
theorem js_expr (h : PE X e (tOf X.K E ps m)) (hs : swapsWith e none pos.line X.env = pure false := by rfl) : PS X (.Expr e pos) (tOfS X.K E ps (mExpr m)) :=
  pst_imp (ps_expr h hs) fun B σ H ⟨W, Hs, δ, hp, re, po⟩ => tOf.stepS hp re po fun v d Hs1 H1 δ1 e1 re1 r1 po1 => PostS.of po1 re1
def mRet (m : M D) : M Fl := mBind m fun d => mPure (.rt (.sh d))
def mRetO (m : M (List D)) : M Fl := mBind m fun xs => mPure (.rt (.ow xs))
theorem js_ret (h : PE X e (tOf X.K E ps m)) : PS X (.Return (some e) pos) (tOfS X.K E ps (mRet m)) :=
  pst_imp (ps_ret h) fun B σ H ⟨W, Hs, δ, hp, re, po⟩ => tOf.stepS hp re po fun v d Hs1 H1 δ1 e1 re1 r1 po1 => PostS.of po1 re1 v r1
theorem js_retO (h : PE X e (tOfO X.K E ps mo)) : PS X (.Return (some e) pos) (tOfS X.K E ps (mRetO mo)) :=
  pst_imp (ps_ret h) fun B σ H ⟨W, Hs, δ, hp, re, po⟩ => tOfO.stepS hp re po fun v d Hs1 H1 δ1 e1 re1 r1 po1 => PostS.of po1 re1 v r1
def mRetN : M Fl := mPure (.rt (.sh .none))
theorem js_retN : PS X (.Return none pos) (tOfS X.K E ps mRetN) :=
  pst_imp ps_retN fun B σ H ⟨W, Hs, δ, hp, re, po⟩ => PostS.of po re .non .non
theorem js_pass : PS X (.Pass pos) (tOfS X.K E ps mNx) := pst_imp ps_pass fun B σ H ⟨W, Hs, δ, hp, re, po⟩ => PostS.of po re
theorem js_break : PS X (.Break pos) (tOfS X.K E ps (mPure .bk)) := pst_imp ps_break fun B σ H ⟨W, Hs, δ, hp, re, po⟩ => PostS.of po re
theorem js_continue : PS X (.Continue pos) (tOfS X.K E ps (mPure .ct)) := pst_imp ps_continue fun B σ H ⟨W, Hs, δ, hp, re, po⟩ => PostS.of po re
def mIfS (t : M Bool) (m1 m2 : M Fl) : M Fl := mBind t fun b => if b then m1 else m2
theorem js_if {c : Expr} {sa sb : List Stmt} {t : M Bool} (hc : PT X c (tOfT X.K E ps t)) (h1 : PSs X sa (tOfS X.K E ps m1)) (h2 : PSs X sb (tOfS X.K E ps m2)) : PS X (.If c sa sb pos) (tOfS X.K E ps (mIfS t m1 m2)) :=
  pst_imp (ps_if hc h1 h2) fun B σ H ⟨W, Hs, δ, hp, re, po⟩ => Cf.stepS hp re po fun b Hs1 H1 δ1 e1 re1 po1 => by
    cases b with
    | true => exact ⟨W, Hs1, δ1, hp, re1, po1⟩
    | false => exact ⟨W, Hs1, δ1, hp, re1, po1⟩
/-- x = e -/
def mSet (i : Nat) (m : M D) : M Fl := mBind m fun d => fun δ => .ok .nx (δ.set i (.sh d))
def mSetO (i : Nat) (m : M (List D)) : M Fl := mBind m fun xs => fun δ => .ok .nx (δ.set i (.ow xs))
theorem js_set {i : Nat} {x : Str} {pos' : Pos} (hps : i ∉ ps) (hN : X.N.Nodup) (hi : X.N[i]? = some x) (hx : Loc X.env.scope x) (h : PE X e (tOf X.K E ps m)) (hs : swapsWith e (some (.Name x pos')) pos.line X.env = pure false := by rfl) (hf : X.fn x = true ∨ X.env.scope.names.lookup x = some .local := by first | exact .inl rfl | exact .inr rfl | assumption) :
    PS X (.Assign [.Name x pos'] e pos) (tOfS X.K E ps (mSet i m)) :=
  pst_imp (ps_set hN hi hx h hs hf) fun B σ H ⟨W, Hs, δ, hp, re, po⟩ => tOf.stepS hp re po fun v d Hs1 H1 δ1 e1 re1 r1 po1 => PostS.of po1 (re1.setSh r1 (by rw [hp]; exact hps))
theorem js_setO {i : Nat} {x : Str} {pos' : Pos} (hps : i ∉ ps) (hN : X.N.Nodup) (hi : X.N[i]? = some x) (hx : Loc X.env.scope x) (h : PE X e (tOfO X.K E ps mo)) (hs : swapsWith e (some (.Name x pos')) pos.line X.env = pure false := by rfl) (hf : X.fn x = true ∨ X.env.scope.names.lookup x = some .local := by first | exact .inl rfl | exact .inr rfl | assumption) :
    PS X (.Assign [.Name x pos'] e pos) (tOfS X.K E ps (mSetO i mo)) :=
  pst_imp (ps_set hN hi hx h hs hf) fun B σ H ⟨W, Hs, δ, hp, re, po⟩ => tOfO.stepS hp re po fun v d Hs1 H1 δ1 e1 re1 r1 po1 => PostS.of po1 (re1.setOw r1 (by rw [hp]; exact hps))
/-- x[i] = e, x a list of one's own -/
def mSetIx (k : Nat) (mi me : M D) : M Fl := mBind me fun d => mBind (mOwn k) fun _ => mBind mi fun e => mBind (mOwn k) fun xs => mBind (mOpt (toI e)) fun n => mBind (mOpt (n.bind fun n => ixN xs.length n)) fun j => fun δ => .ok .nx (δ.set k (.ow (xs.set j d)))
theorem js_setIx {k : Nat} {x : Str} {p p' : Pos} {i v : Expr} {mi me : M D} (hN : X.N[k]? = some x) (hv : Vis X.env.scope x) (he : PE X v (tOf X.K E ps me)) (hi : PE X i (tOf X.K E ps mi)) (hd : (x == ("__debug__" : Str)) = false := by decide) (hcd : (x == ("__classdict__" : Str)) = false := by decide)
    (ha : ∀ v, assign (.Subscript (.Name x p) i p') X.env v = (do
      let ov ← holding [v] (eval (.Name x p) X.env)
      let iv ← holding [v, ov] (eval i X.env)
      standAt p'
      holding [v, ov, iv] (setItem ov iv v)
      release [v, ov, iv] []) := by intro _; rfl)
    (hs : swapsWithSole [.Subscript (.Name x p) i p'] v pos.line X.env = pure false := by rfl) (hw : swappedStores [.Subscript (.Name x p) i p'] v X.env = pure none := by rfl)
    (h1 : (assignEach [.Subscript (.Name x p) i p'] X.env).map (·.2) = [assign (.Subscript (.Name x p) i p') X.env] := by rfl) : PS X (.Assign [.Subscript (.Name x p) i p'] v pos) (tOfS X.K E ps (mSetIx k mi me)) :=
  pst_imp (ps_asg he (pg_sub (pe_var hN hv hd hcd) hi set_list ha) hs hw h1) fun B σ H ⟨W, Hs, δ, hp, re, po⟩ => by
    refine tOf.stepS hp re po fun w d Hs1 H1 δ1 e1 re1 r1 po1 => ?_
    obtain ⟨xs, hx, po2⟩ := mOwn_postF po1
    obtain ⟨q, Hb, g1, _⟩ := lent re1 hx
    refine ⟨_, g1, tOf.stepS hp re1 po2 fun u c Hs2 H2 δ2 e2 re2 r2 po3 => ?_⟩
    obtain ⟨xs', hx', po4⟩ := mOwn_postF po3
    obtain ⟨q', Hb', g1', _, _, _, _, _, vs, g7, g8⟩ := lent re2 hx'
    have eq : q' = q := by rw [g1] at g1'; cases g1'; rfl
    subst eq
    obtain ⟨n, hn, po5⟩ := optF po4
    obtain ⟨j, hj, po6⟩ := optF po5
    cases r2 <;> simp [toI] at hn
    subst hn
    simp only [Option.bind_some] at hj
    refine ⟨q', vs, _, j, rfl, rfl, g7, by rw [g8.length]; exact hj, ?_⟩
    exact PostS.of po6 (re2.write hx' rfl g1 (s := .ow (xs'.set j d)) rfl (Rps.set (r1.ex e2) j g8))
/-- x.append(e) -/
def mApp (k : Nat) (me : M D) : M Fl := mBind (mOwn k) fun _ => mBind me fun d => mBind (mOwn k) fun xs => mBind (mOpt (if xs.length < sizeLine then some () else none)) fun _ => fun δ => .ok .nx (δ.set k (.ow (xs ++ [d])))
theorem js_app {k : Nat} {x : Str} {p apos cpos : Pos} {v : Expr} {me : M D} (hN : X.N[k]? = some x) (hv : Vis X.env.scope x) (he : PE X v (tOf X.K E ps me)) (hd : (x == ("__debug__" : Str)) = false := by decide) (hcd : (x == ("__classdict__" : Str)) = false := by decide)
    {PE0 : PE X (.Call (.Attribute (.Name x p) "append" apos) [v] [] cpos) (tBM X.K "list" rAppend (tVar k) (tCons (tOf X.K E ps me) tNil))}
    (hs : swapsWith (.Call (.Attribute (.Name x p) "append" apos) [v] [] cpos) none pos.line X.env = pure false := by rfl) : PS X (.Expr (.Call (.Attribute (.Name x p) "append" apos) [v] [] cpos) pos) (tOfS X.K E ps (mApp k me)) :=
  pst_imp (ps_expr PE0 hs) fun B σ H ⟨W, Hs, δ, hp, re, po⟩ => by
    obtain ⟨xs, hx, po1⟩ := mOwn_postF po
    obtain ⟨q, Hb, g1, _, _, _, _, g6, _⟩ := lent re hx
    refine ⟨_, g1, g6, tOf.stepS hp re po1 fun w d Hs1 H1 δ1 e1 re1 r1 po2 => ?_⟩
    obtain ⟨xs', hx', po3⟩ := mOwn_postF po2
    obtain ⟨q', Hb', g1', _, _, _, _, _, vs, g7, g8⟩ := lent re1 hx'
    have eq : q' = q := by rw [g1] at g1'; cases g1'; rfl
    subst eq
    obtain ⟨_, hl, po4⟩ := optF po3
    have hlt : xs'.length < sizeLine := by
      by_cases h : xs'.length < sizeLine
      · exact h
      · rw [if_neg h] at hl; cases hl
    refine ⟨q', vs, w, rfl, rfl, g7, by rw [g8.length]; exact hlt, ?_⟩
    exact PostS.of po4 (re1.write hx' rfl g1 (s := .ow (xs' ++ [d])) rfl (g8.snoc r1))

def PostG (r : Res Unit) (Q : Env → Prop) : Prop := match r with
  | .ok _ δ' => Q δ'
  | _ => False
def rBind (r : Res Unit) (f : Env → Res Unit) : Res Unit := match r with
  | .ok _ δ' => f δ'
  | _ => .bad
theorem PostG.bind {r : Res Unit} {f : Env → Res Unit} {Q : Env → Prop} (h : PostG (rBind r f) Q) : PostG r fun δ' => PostG (f δ') Q := by
  cases r with
  | ok a δ => exact h
  | exc x δ => exact h
  | bad => exact h
theorem PostG.imp {r : Res Unit} {Q Q' : Env → Prop} (h : PostG r Q) (k : ∀ δ, Q δ → Q' δ) : PostG r Q' := by
  cases r with
  | ok a δ => exact k δ h
  | exc x δ => exact h
  | bad => exact h
/-- the same but for some slots -/
def Off (gv : List Nat) (σ σ' : L2.St) : Prop := σ'.length = σ.length ∧ ∀ j, j ∉ gv → σ'[j]? = σ[j]?
theorem Off.refl {gv : List Nat} {σ : L2.St} : Off gv σ σ := ⟨rfl, fun _ _ => rfl⟩
theorem Off.trans {gv gw : List Nat} {σ σ1 σ2 : L2.St} (a : Off gv σ σ1) (b : Off gw σ1 σ2) : Off (gv ++ gw) σ σ2 := ⟨b.1.trans a.1, fun j h => by
  rw [List.mem_append, not_or] at h
  rw [b.2 j h.2, a.2 j h.1]⟩
def gOf (K : Frag) (E : XQ) (ps gv : List Nat) (mg : D → M Unit) : TG := fun v σ H Q => ∃ (W : Wd) (Hs : Hp) (δ : Env) (d : D), W.pn.map (·.1) = ps ∧ RE K W Hs H σ δ ∧ Rp K Hs v d ∧
  PostG (mg d δ) fun δ' => ∀ σ' Hs' H', Ex Hs Hs' → RE K W Hs' H' σ' δ' → Off gv σ σ' → Q σ' H'
def gOfs (K : Frag) (E : XQ) (ps gv : List Nat) (mg : List D → M Unit) : TGs := fun vs σ H Q => ∃ (W : Wd) (Hs : Hp) (δ : Env) (ds : List D), W.pn.map (·.1) = ps ∧ RE K W Hs H σ δ ∧ Rps K Hs vs ds ∧
  PostG (mg ds δ) fun δ' => ∀ σ' Hs' H', Ex Hs Hs' → RE K W Hs' H' σ' δ' → Off gv σ σ' → Q σ' H'
theorem pg_imp {tg : Expr} {t t' : TG} (h : PG X tg t) (k : ∀ v σ H Q, t' v σ H Q → t v σ H Q) : PG X tg t' := ⟨fun pins s σ H v u Q I r q => h.run pins s σ H v u Q I r (k v σ H Q q)⟩
theorem pgs_imp {tg : List Expr} {t t' : TGs} (h : PGs X tg t) (k : ∀ v σ H Q, t' v σ H Q → t v σ H Q) : PGs X tg t' := ⟨fun pins s σ H v u Q I r q => h.run pins s σ H v u Q I r (k v σ H Q q)⟩
def mgName (i : Nat) : D → M Unit := fun d δ => .ok () (δ.set i (.sh d))
theorem jg_name {i : Nat} {x : Str} (hps : i ∉ ps) (hN : X.N.Nodup) (hi : X.N[i]? = some x) (hx : Loc X.env.scope x) (hf : X.fn x = true ∨ X.env.scope.names.lookup x = some .local := by first | exact .inl rfl | exact .inr rfl | assumption) : PG X (.Name x pos) (gOf X.K E ps [i] (mgName i)) :=
  pg_imp (pg_name hN hi hx hf) fun v σ H Q ⟨W, Hs, δ, d, hp, re, r, po⟩ => po _ Hs H (Ex.refl _) (re.setSh r (by rw [hp]; exact hps)) ⟨by simp, fun j hj => by rw [List.getElem?_set_ne (fun z => hj (by simp [z]))]⟩
def mgNil : List D → M Unit
  | [] => mPure ()
  | _ :: _ => fun _ => .bad
def mgCons (g : D → M Unit) (gs : List D → M Unit) : List D → M Unit
  | d :: ds => fun δ => rBind (g d δ) (gs ds)
  | [] => fun _ => .bad
theorem jgs_nil : PGs X [] (gOfs X.K E ps [] mgNil) := pgs_imp pgs_nil fun vs σ H Q ⟨W, Hs, δ, ds, hp, re, r, po⟩ => by
  cases r with
  | nil => exact ⟨rfl, po σ Hs H (Ex.refl _) re Off.refl⟩
  | cons _ _ => exact po.elim
theorem jgs_cons {t : Expr} {ts : List Expr} {gv gw : List Nat} {g : D → M Unit} {gs : List D → M Unit} (h1 : PG X t (gOf X.K E ps gv g)) (h2 : PGs X ts (gOfs X.K E ps gw gs)) (hs : (assignEach (t :: ts) X.env).map (·.2) = assign t X.env :: (assignEach ts X.env).map (·.2) := by rfl) : PGs X (t :: ts) (gOfs X.K E ps (gv ++ gw) (mgCons g gs)) :=
  pgs_imp (pgs_cons h1 h2 hs) fun vs σ H Q ⟨W, Hs, δ, ds, hp, re, r, po⟩ => by
    cases r with
    | nil => exact po.elim
    | cons r1 rs =>
      refine ⟨_, _, rfl, W, Hs, δ, _, hp, re, r1, (PostG.bind po).imp fun δ1 po1 => ?_⟩
      exact fun σ' Hs' H' e re' of => ⟨W, Hs', δ1, _, hp, re', rs.ex e, po1.imp fun δ2 k σ2 Hs2 H2 e2 r2 of2 => k σ2 Hs2 H2 (e.trans e2) r2 (of.trans of2)⟩
/-- how many names, at any rate -/
def mgLen (n : Nat) (gs : List D → M Unit) : List D → M Unit := fun ds δ => if ds.length = n then gs ds δ else .bad
def mgTup (n : Nat) (gs : List D → M Unit) : D → M Unit
  | .tuple ds => mgLen n gs ds
  | _ => fun _ => .bad
def mgLst (n : Nat) (gs : List D → M Unit) : D → M Unit
  | .list ds => mgLen n gs ds
  | _ => fun _ => .bad
theorem mgLen_post {n : Nat} {gs : List D → M Unit} {ds : List D} {δ : Env} {Q : Env → Prop} (h : PostG (mgLen n gs ds δ) Q) : ds.length = n ∧ PostG (gs ds δ) Q := by
  unfold mgLen at h
  by_cases hl : ds.length = n
  · rw [if_pos hl] at h; exact ⟨hl, h⟩
  · rw [if_neg hl] at h; exact h.elim
theorem jg_tup {ts : List Expr} {k n : Nat} {gv : List Nat} {gs : List D → M Unit} (hc : X.calm = true) (h : PGs X ts (gOfs X.K E ps gv gs)) (hn : (assignEach ts X.env).length = n := by rfl) (hst : (assignEach ts X.env).findIdx? (·.1) = none := by rfl) : PG X (.Tuple ts k pos) (gOf X.K E ps gv (mgTup n gs)) :=
  pg_imp (pg_tup (n := n) hc h hn hst) fun v σ H Q ⟨W, Hs, δ, d, hp, re, r, po⟩ => by
    cases r with
    | tup h1 t =>
      obtain ⟨hl, po1⟩ := mgLen_post po
      exact ⟨_, _, rfl, sqT_ex re.ex h1, by rw [t.length]; exact hl, W, Hs, δ, _, hp, re, t, po1⟩
    | _ => exact po.elim
theorem jg_lst {ts : List Expr} {k n : Nat} {gv : List Nat} {gs : List D → M Unit} (hc : X.calm = true) (h : PGs X ts (gOfs X.K E ps gv gs)) (hn : (assignEach ts X.env).length = n := by rfl) (hst : (assignEach ts X.env).findIdx? (·.1) = none := by rfl) : PG X (.Tuple ts k pos) (gOf X.K E ps gv (mgLst n gs)) :=
  pg_imp (pg_unl (n := n) hc h hn hst) fun v σ H Q ⟨W, Hs, δ, d, hp, re, r, po⟩ => by
    cases r with
    | lst h1 t =>
      obtain ⟨hl, po1⟩ := mgLen_post po
      exact ⟨_, _, rfl, sqL_ex re.ex h1, by rw [t.length]; exact hl, W, Hs, δ, _, hp, re, t, po1⟩
    | _ => exact po.elim
/-- targets = e -/
def mAsg (g : D → M Unit) (m : M D) : M Fl := mBind m fun d δ => match g d δ with
  | .ok _ δ' => .ok .nx δ'
  | _ => .bad
theorem js_asg {tg : Expr} {gv : List Nat} {g : D → M Unit} (h : PE X e (tOf X.K E ps m)) (hg : PG X tg (gOf X.K E ps gv g)) (hs : swapsWithSole [tg] e pos.line X.env = pure false := by rfl) (hw : swappedStores [tg] e X.env = pure none := by rfl)
    (h1 : (assignEach [tg] X.env).map (·.2) = [assign tg X.env] := by rfl) : PS X (.Assign [tg] e pos) (tOfS X.K E ps (mAsg g m)) :=
  pst_imp (ps_asg h hg hs hw h1) fun B σ H ⟨W, Hs, δ, hp, re, po⟩ => tOf.stepS hp re po fun v d Hs1 H1 δ1 e1 re1 r1 po1 => by
    refine ⟨W, Hs1, δ1, d, hp, re1, r1, ?_⟩
    cases q : g d δ1 with
    | ok u δ2 => rw [q] at po1; exact fun σ' Hs' H' e r _ => po1 σ' Hs' H' e r
    | exc x δ2 => rw [q] at po1; exact po1
    | bad => rw [q] at po1; exact po1
end
end Dn
namespace Dn
open PySem PySem.Spec PyProof.Rows L2

def ItOk (K : Frag) (Hs : Hp) (J : It) (ds : List D) : Prop := ∀ Hs1 H1, Ex Hs Hs1 → Ex Hs1 H1 → ∀ i : Nat,
  (∀ d, ds[i]? = some d → J.go i H1 ∧ ∀ x H2, J.yld i H1 x H2 → ∃ Hs2, Gr Hs1 H1 Hs2 H2 ∧ Rp K Hs2 x d) ∧ (ds[i]? = none → J.stop i H1)
def tOfI (K : Frag) (E : XQ) (ps : List Nat) (m : M (List D)) : TI := fun σ H R => Cf K E ps m σ H fun _ ds Hs' H' _ => ∀ J, ItOk K Hs' J ds → R J H'
theorem pi_imp {X : Cx} {tg e : Expr} {t t' : TI} (h : PI X tg e t) (k : ∀ σ H Q, t' σ H Q → t σ H Q) : PI X tg e t' := ⟨fun pins s σ H Q I q => h.run pins s σ H Q I (k σ H Q q)⟩
def sgnD (z : Str) : List D := z.cps.toList.map fun c => .str ⟨#[c]⟩
def dItems : D → Option (List D)
  | .list xs => some xs
  | .tuple xs => some xs
  | .str z => some (sgnD z)
  | _ => none
section
variable {X : Cx} {E : XQ} {ps : List Nat} {tg e : Expr} {pos : Pos} {m : M D}
/-- a list, a tuple, a text -/
def iAnyR (K : Frag) (tl : TE) : TI := fun σ H R => tl σ H fun x H1 => (∃ a, x = .ref a ∧ (∃ xs, SqL K H1 a xs) ∧ R (Itl K a) H1) ∨ (∃ a, x = .ref a ∧ (∃ xs, SqT K H1 a xs) ∧ R (Itt K a) H1) ∨ ∃ z, x = .str z ∧ R (Its z) H1
theorem pi_anyR {tl : TE} (hl : PE X e tl) : PI X tg e (iAnyR X.K tl) := by
  constructor
  intro pins s σ H R I h
  refine thn (hl.run pins s σ H _ I h) ?_
  rintro v s1 ⟨x, H1, I1, r1, q1⟩
  rcases q1 with ⟨a, hx, ⟨xs, hq⟩, q⟩ | ⟨a, hx, ⟨xs, hq⟩, q⟩ | ⟨z, hx, q⟩
  · subst hx
    obtain rfl : v = Value.ref a := r1
    obtain ⟨its, rv, p, hz⟩ := I1.list hq
    exact wpAny_pyIter_list p.isList (pi_one (tk := s1.toks) I1 _ (turn_list a _)
      ⟨_, Heap.get?_push_size _ rfl, rfl, rfl⟩ q)
  · subst hx
    obtain rfl : v = Value.ref a := r1
    obtain ⟨its, rv, p, hz⟩ := I1.tuple hq
    have pt : s1.heap.IsTuple a its.toArray := p
    exact wpAny_pyIter_tuple pt (pi_one (tk := s1.toks) I1 _ (turn_tuple a _)
      ⟨_, Heap.get?_push_size _ rfl, rfl, rfl⟩ q)
  · subst hx
    obtain ⟨t, rfl⟩ := r1
    by_cases ha : z.cps.all (· < 128) = true
    · exact wpAny_pyIter_ascii ha (pi_one (tk := s1.toks) I1 _ (turn_str _ z t _ (.inl rfl))
        ⟨_, Heap.get?_push_size _ rfl, rfl, rfl⟩ q)
    · have ha' : z.cps.all (· < 128) = false := by simpa using ha
      exact wpAny_pyIter_wide ha' (pi_one (tk := s1.toks) I1 _ (turn_str _ z t _ (.inr rfl))
        ⟨_, Heap.get?_push_size _ rfl, rfl, rfl⟩ q)
theorem none_le {α : Type} {l : List α} {i : Nat} (h : l[i]? = none) : l.length ≤ i := List.getElem?_eq_none_iff.mp h
theorem it_list {K : Frag} {Hs : Hp} {a : Addr} {vs : List V} {ds : List D} (h : SqL K Hs a vs) (t : Rps K Hs vs ds) : ItOk K Hs (Itl K a) ds := fun Hs1 H1 e1 e2 i => ⟨fun d hd => by
  obtain ⟨v, h1, h2⟩ := t.get hd
  have hq : SqL K H1 a vs := sqL_ex (e1.trans e2) h
  refine ⟨⟨vs, v, hq, h1⟩, fun x H2 ⟨hH, hx⟩ => ?_⟩
  subst hH
  have := hx vs hq
  rw [h1] at this
  cases this
  exact ⟨Hs1, .refl e2, h2.ex e1⟩, fun hn => ⟨vs, sqL_ex (e1.trans e2) h, by rw [t.length]; exact none_le hn⟩⟩
theorem it_tup {K : Frag} {Hs : Hp} {a : Addr} {vs : List V} {ds : List D} (h : SqT K Hs a vs) (t : Rps K Hs vs ds) : ItOk K Hs (Itt K a) ds := fun Hs1 H1 e1 e2 i => ⟨fun d hd => by
  obtain ⟨v, h1, h2⟩ := t.get hd
  have hq : SqT K H1 a vs := sqT_ex (e1.trans e2) h
  refine ⟨⟨vs, v, hq, h1⟩, fun x H2 ⟨hH, hx⟩ => ?_⟩
  subst hH
  have := hx vs hq
  rw [h1] at this
  cases this
  exact ⟨Hs1, .refl e2, h2.ex e1⟩, fun hn => ⟨vs, sqT_ex (e1.trans e2) h, by rw [t.length]; exact none_le hn⟩⟩
theorem it_str {K : Frag} {Hs : Hp} {z : Str} : ItOk K Hs (Its z) (sgnD z) := fun Hs1 H1 e1 e2 i => ⟨fun d hd => by
  unfold sgnD at hd
  rw [List.getElem?_map, Option.map_eq_some_iff] at hd
  obtain ⟨c, hc, hd⟩ := hd
  subst hd
  rw [Array.getElem?_toList] at hc
  refine ⟨(Array.getElem?_eq_some_iff.mp hc).1, fun x H2 ⟨hH, c', hc', hx⟩ => ?_⟩
  subst hH; subst hx
  rw [hc] at hc'
  cases hc'
  exact ⟨Hs1, .refl e2, .str _⟩, fun hn => by
  have := none_le hn
  unfold sgnD at this
  rw [List.length_map, Array.length_toList] at this
  exact this⟩
def mIter (m : M D) : M (List D) := mBind m fun d => mOpt (dItems d)
theorem ji_any (h : PE X e (tOf X.K E ps m)) : PI X tg e (tOfI X.K E ps (mIter m)) :=
  pi_imp (pi_anyR h) fun σ H R ⟨W, Hs, δ, hp, re, po⟩ => tOf.step hp re po fun v d Hs1 H1 δ1 e1 re1 r1 po1 => by
    obtain ⟨ds, hd, po2⟩ := Post.opt po1
    cases r1 with
    | lst h t =>
      obtain rfl := Option.some.inj hd
      exact .inl ⟨_, rfl, ⟨_, sqL_ex re1.ex h⟩, Post.of po2 re1 _ (it_list h t)⟩
    | tup h t =>
      obtain rfl := Option.some.inj hd
      exact .inr (.inl ⟨_, rfl, ⟨_, sqT_ex re1.ex h⟩, Post.of po2 re1 _ (it_tup h t)⟩)
    | str z =>
      obtain rfl := Option.some.inj hd
      exact .inr (.inr ⟨z, rfl, Post.of po2 re1 _ it_str⟩)
    | _ => simp [dItems] at hd

def inLine (i : Int) : Bool := decide (-(2 ^ 62) ≤ i ∧ i < 2 ^ 62)
def rngD (i : Int) (n : Nat) : List D := (List.range n).map fun (k : Nat) => PyData.int (i + (k : Int))
def bRng1 : D → Option (List D)
  | .int j => if inLine j then some (rngD 0 j.toNat) else none
  | _ => none
def bRng2 : D → D → Option (List D)
  | .int i, .int j => if inLine i ∧ inLine j then some (rngD i (j - i).toNat) else none
  | _, _ => none
theorem it_rng {K : Frag} {Hs : Hp} {lo : Int} {n : Nat} : ItOk K Hs (Itr lo n) (rngD lo n) := fun Hs1 H1 e1 e2 i => ⟨fun d hd => by
  unfold rngD at hd
  rw [List.getElem?_map, Option.map_eq_some_iff] at hd
  obtain ⟨c, hc, hd⟩ := hd
  subst hd
  obtain ⟨hi, hc⟩ := List.getElem?_eq_some_iff.mp hc
  rw [List.getElem_range] at hc
  subst hc
  rw [List.length_range] at hi
  refine ⟨hi, fun x H2 ⟨hH, hx⟩ => ?_⟩
  subst hH; subst hx
  exact ⟨Hs1, .refl e2, .int _⟩, fun hn => by
  have := none_le hn
  unfold rngD at this
  rw [List.length_map, List.length_range] at this
  exact this⟩
def mRng1 (m : M D) : M (List D) := mBind m fun d => mOpt (bRng1 d)
def mRng2 (ma mb : M D) : M (List D) := mBind ma fun d => mBind mb fun e => mOpt (bRng2 d e)
theorem ji_range1 {a : Expr} {p : Pos} {ma : M D} (hg : Gl X "range") (hm : X.mg "range" = none) (ha : PE X a (tOf X.K E ps ma)) (hs : starEach [a] X.env = [(false, eval a X.env)] := by rfl) : PI X tg (.Call (.Name "range" p) [a] [] pos) (tOfI X.K E ps (mRng1 ma)) :=
  pi_imp (pi_range1 hg hm (pa_cons ha pa_nil hs) hs) fun σ H R ⟨W, Hs, δ, hp, re, po⟩ => tOf.step hp re po fun v d Hs1 H1 δ1 e1 re1 r1 po1 => by
    obtain ⟨ds, hd, po2⟩ := Post.opt po1
    cases r1 with
    | int j =>
      simp only [bRng1, Option.ite_none_right_eq_some, Option.some.injEq] at hd
      obtain ⟨hl, hd⟩ := hd
      subst hd
      have hl' := of_decide_eq_true hl
      exact ⟨j, rfl, hl'.1, hl'.2, Post.of po2 re1 _ it_rng⟩
    | _ => simp [bRng1] at hd
theorem ji_range2 {a b : Expr} {p : Pos} {ma mb : M D} (hg : Gl X "range") (hm : X.mg "range" = none) (ha : PE X a (tOf X.K E ps ma)) (hb : PE X b (tOf X.K E ps mb)) (hs : starEach [a, b] X.env = [(false, eval a X.env), (false, eval b X.env)] := by rfl) (hs2 : starEach [b] X.env = [(false, eval b X.env)] := by rfl) : PI X tg (.Call (.Name "range" p) [a, b] [] pos) (tOfI X.K E ps (mRng2 ma mb)) :=
  pi_imp (pi_range2 hg hm (pa_cons ha (pa_cons hb pa_nil hs2) (by rw [hs, hs2])) hs hs2) fun σ H R ⟨W, Hs, δ, hp, re, po⟩ => tOf.step hp re po fun v d Hs1 H1 δ1 e1 re1 r1 po1 => tOf.step hp re1 po1 fun w c Hs2 H2 δ2 e2 re2 r2 po2 => by
    obtain ⟨ds, hd, po3⟩ := Post.opt po2
    cases r1 with
    | int i =>
      cases r2 with
      | int j =>
        simp only [bRng2, Option.ite_none_right_eq_some, Option.some.injEq] at hd
        obtain ⟨⟨h1, h2⟩, hd⟩ := hd
        subst hd
        have h1' := of_decide_eq_true h1
        have h2' := of_decide_eq_true h2
        exact ⟨i, j, rfl, ⟨h1'.1, h1'.2, h2'.1, h2'.2⟩, Post.of po3 re2 _ it_rng⟩
      | _ => simp [bRng2] at hd
    | _ => cases r2 <;> simp [bRng2] at hd

def forL (g : D → M Unit) (mb : M Fl) : List D → M Fl
  | [] => mNx
  | d :: ds => fun δ => match g d δ with
    | .ok _ δ1 => match mb δ1 with
      | .ok .nx δ2 => forL g mb ds δ2
      | .ok .ct δ2 => forL g mb ds δ2
      | .ok .bk δ2 => .ok .nx δ2
      | .ok (.rt s) δ2 => .ok (.rt s) δ2
      | .exc x δ2 => .exc x δ2
      | .bad => .bad
    | _ => .bad
def mFor (mi : M (List D)) (g : D → M Unit) (mb : M Fl) : M Fl := mBind mi (forL g mb)
theorem js_for {iter : Expr} {body : List Stmt} {mi : M (List D)} {gv : List Nat} {g : D → M Unit} {mb : M Fl} (hpa : PassesOwn (model X.prog X.w) X.A X.env X.xe) (hc : X.calm = true) (hi : PI X tg iter (tOfI X.K E ps mi)) (hg : PG X tg (gOf X.K E ps gv g)) (hb : PSs X body (tOfS X.K E ps mb))
    (hs : ∀ x, foldedSetIterable iter X.env x = pure x := by intro _; rfl) : PS X (.For tg iter body [] pos) (tOfS X.K E ps (mFor mi g mb)) :=
  pst_imp (ps_for hpa hc hi hg hb hs) fun B σ H ⟨W, Hs, δ, hp, re, po⟩ => Cf.stepS hp re po fun ds Hs1 H1 δ1 e1 re1 po1 J hJ => by
    refine ⟨fun i m σ' H' => m = ds.length - i ∧ i ≤ ds.length ∧ ∃ Hs2 δ2, Ex Hs1 Hs2 ∧ RE X.K W Hs2 H' σ' δ2 ∧ PostF X.K E W Hs2 (forL g mb (ds.drop i) δ2) B, ⟨ds.length, rfl, Nat.zero_le _, Hs1, δ1, Ex.refl _, re1, po1⟩, ?_⟩
    rintro i m σ' H' ⟨hm, hi, Hs2, δ2, e2, re2, po2⟩
    obtain ⟨j1, j2⟩ := hJ Hs2 H' e2 re2.ex i
    by_cases hlt : i < ds.length
    · have hd : ds[i]? = some ds[i] := List.getElem?_eq_getElem hlt
      obtain ⟨g1, g2⟩ := j1 _ hd
      refine .inr ⟨g1, fun σ3 H3 => ∃ Hs3 δ3, Ex Hs1 Hs3 ∧ RE X.K W Hs3 H3 σ3 δ3 ∧ PostF X.K E W Hs3 (forL g mb (ds.drop (i + 1)) δ3) B, fun σ3 H3 ⟨Hs3, δ3, e3, re3, po3⟩ => ⟨ds.length - (i + 1), by omega, rfl, hlt, Hs3, δ3, e3, re3, po3⟩, fun x H3 y => ?_⟩
      obtain ⟨Hs3, gr, rx⟩ := g2 x H3 y
      have re3 := re2.grow gr
      have po3 := PostS.ex po2 gr.s
      rw [List.drop_eq_getElem_cons hlt] at po3
      unfold forL at po3
      refine ⟨W, Hs3, δ2, ds[i], hp, re3, rx, ?_⟩
      cases q : g ds[i] δ2 with
      | ok u δ4 =>
        rw [q] at po3
        refine fun σ4 Hs4 H4 e4 re4 _ => ⟨W, Hs4, δ4, hp, re4, ?_⟩
        dsimp only at po3
        cases z : mb δ4 with
        | ok fl δ5 =>
          rw [z] at po3
          cases fl with
          | nx => exact fun σ5 Hs5 H5 e5 re5 => ⟨Hs5, δ5, ((e2.trans gr.s).trans e4).trans e5, re5, PostS.ex po3 (e4.trans e5)⟩
          | ct => exact fun σ5 Hs5 H5 e5 re5 => ⟨Hs5, δ5, ((e2.trans gr.s).trans e4).trans e5, re5, PostS.ex po3 (e4.trans e5)⟩
          | bk => exact fun σ5 Hs5 H5 e5 re5 => po3 σ5 Hs5 H5 (e4.trans e5) re5
          | rt s => cases s <;> exact fun σ5 Hs5 H5 e5 re5 => po3 σ5 Hs5 H5 (e4.trans e5) re5
        | exc x δ5 =>
          rw [z] at po3
          exact fun σ5 Hs5 H5 e5 re5 => po3 σ5 Hs5 H5 (e4.trans e5) re5
        | bad => rw [z] at po3; exact po3
      | exc x δ4 => rw [q] at po3; exact po3
      | bad => rw [q] at po3; exact po3
    · have e : i = ds.length := by omega
      subst e
      rw [List.drop_length] at po2
      exact .inl ⟨j2 (List.getElem?_eq_none_iff.mpr (Nat.le_refl _)), PostS.of po2 re2⟩
end

def wipeE (δ : Env) : List Nat → Env
  | [] => δ
  | v :: vs => (wipeE δ vs).set v .no
def backE (δ1 δ2 : Env) : List Nat → Env
  | [] => δ2
  | v :: vs => (backE δ1 δ2 vs).set v (δ1.getD v .no)
theorem wipeE_length (δ : Env) : ∀ vs, (wipeE δ vs).length = δ.length
  | [] => rfl
  | v :: vs => by unfold wipeE; rw [List.length_set, wipeE_length δ vs]
theorem backE_length (δ1 δ2 : Env) : ∀ vs, (backE δ1 δ2 vs).length = δ2.length
  | [] => rfl
  | v :: vs => by unfold backE; rw [List.length_set, backE_length δ1 δ2 vs]
theorem wipeE_in {δ : Env} {i : Nat} {s : Sl} : ∀ {vs : List Nat}, i ∈ vs → (wipeE δ vs)[i]? = some s → s = .no
  | v :: vs, h, q => by
    unfold wipeE at q
    rcases setGet q with ⟨_, z⟩ | ⟨hj, z⟩
    · exact z
    · rcases List.mem_cons.mp h with e | h
      · exact absurd e hj
      · exact wipeE_in h z
theorem wipeE_out {δ : Env} {i : Nat} : ∀ {vs : List Nat}, i ∉ vs → (wipeE δ vs)[i]? = δ[i]?
  | [], _ => rfl
  | v :: vs, h => by
    unfold wipeE
    have hne : v ≠ i := fun z => h (by simp [z])
    rw [List.getElem?_set_ne hne]
    exact wipeE_out fun z => h (List.mem_cons_of_mem _ z)
theorem backE_in {δ1 δ2 : Env} {i : Nat} {s : Sl} : ∀ {vs : List Nat}, i ∈ vs → (backE δ1 δ2 vs)[i]? = some s → s = δ1.getD i .no
  | v :: vs, h, q => by
    unfold backE at q
    rcases setGet q with ⟨hv, z⟩ | ⟨hj, z⟩
    · rw [hv]; exact z
    · rcases List.mem_cons.mp h with e | h
      · exact absurd e hj
      · exact backE_in h z
theorem backE_out {δ1 δ2 : Env} {i : Nat} : ∀ {vs : List Nat}, i ∉ vs → (backE δ1 δ2 vs)[i]? = δ2[i]?
  | [], _ => rfl
  | v :: vs, h => by
    unfold backE
    have hne : v ≠ i := fun z => h (by simp [z])
    rw [List.getElem?_set_ne hne]
    exact backE_out fun z => h (List.mem_cons_of_mem _ z)
theorem wipe_off {σ σ2 : L2.St} {vs gv : List Nat} (h : Off gv (wipe σ vs) σ2) (hs : ∀ i ∈ gv, i ∈ vs) : wipe σ2 vs = wipe σ vs := by
  apply List.ext_getElem?
  intro j
  by_cases hj : j ∈ vs
  · have f : ∀ (τ : L2.St) (us : List Nat), j ∈ us → (wipe τ us)[j]? = if j < τ.length then some none else none := fun τ us hju => by
      induction us with
      | nil => cases hju
      | cons u us ih =>
        unfold wipe
        by_cases e : u = j
        · subst e
          rw [List.getElem?_set]
          simp [wipe_length]
        · rw [List.getElem?_set_ne e]
          exact ih ((List.mem_cons.mp hju).resolve_left (Ne.symm e))
    rw [f _ _ hj, f _ _ hj, h.1, wipe_length]
  · rw [wipe_out hj, h.2 j (fun z => hj (hs j z)), wipe_out hj]
section
variable {K : Frag} {W : Wd} {Hs H Hs' H' : Hp} {σ : L2.St} {δ δ' : Env} {vs : List Nat}
theorem RE.wipe (re : RE K W Hs H σ δ) (hv : ∀ i ∈ vs, i ∉ W.pn.map (·.1)) : RE K W Hs H (wipe σ vs) (wipeE δ vs) := by
  have r1 : RE K W Hs H σ (wipeE δ vs) := re.less (wipeE_length δ vs) (fun i s q => by
    by_cases hi : i ∈ vs
    · exact .inl (wipeE_in hi q)
    · rw [wipeE_out hi] at q; exact .inr q) fun p hp => wipeE_out fun z => hv p.1 z (List.mem_map_of_mem hp)
  refine r1.sig (wipe_length σ vs) fun i s q hn => ?_
  by_cases hi : i ∈ vs
  · exact absurd (wipeE_in hi q) hn
  · exact wipe_out hi
/-- behind a block: its own names are as they were ahead of it -/
theorem RE.back (re : RE K W Hs H σ δ) (re2 : RE K W Hs' H' (L2.wipe σ vs) δ') (e : Ex Hs Hs') (hno : ∀ i ∈ vs, (δ.getD i .no).own = false) (hv : ∀ i ∈ vs, i ∉ W.pn.map (·.1)) : RE K W Hs' H' σ (backE δ δ' vs) where
  ex := re2.ex
  fg := re2.fg
  len := by rw [backE_length, ← re2.len, wipe_length]
  sh := fun i d q => by
    by_cases hi : i ∈ vs
    · have z := backE_in hi q
      have hg : δ[i]? = some (Sl.sh d) := by
        rw [List.getD_eq_getElem?_getD] at z
        cases w : δ[i]? with
        | none => rw [w] at z; cases z
        | some s => rw [w] at z; exact congrArg some z.symm
      obtain ⟨v, h1, h2⟩ := re.sh i d hg
      exact ⟨v, h1, h2.ex e⟩
    · rw [backE_out hi] at q
      obtain ⟨v, h1, h2⟩ := re2.sh i d q
      rw [wipe_out hi] at h1
      exact ⟨v, h1, h2⟩
  ow := fun i s q w => by
    by_cases hi : i ∈ vs
    · have z := backE_in hi q
      rw [z, hno i hi] at w
      cases w
    · rw [backE_out hi] at q
      obtain ⟨a, o, h1, h2⟩ := re2.ow i s q w
      rw [wipe_out hi] at h1
      exact ⟨a, o, h1, h2⟩
  ap := fun i j s t a h1 h2 h3 h4 h5 h6 => by
    by_cases hi : i ∈ vs
    · have z := backE_in hi h1
      rw [z, hno i hi] at h2
      cases h2
    · by_cases hj : j ∈ vs
      · have z := backE_in hj h3
        rw [z, hno j hj] at h4
        cases h4
      · rw [backE_out hi] at h1
        rw [backE_out hj] at h3
        rw [← wipe_out hi] at h5
        rw [← wipe_out hj] at h6
        exact re2.ap i j s t a h1 h2 h3 h4 h5 h6
  pin := fun p hp => by
    have hi : p.1 ∉ vs := fun z => hv p.1 z (List.mem_map_of_mem hp)
    obtain ⟨h1, s, h2, h3⟩ := re2.pin p hp
    rw [wipe_out hi] at h1
    exact ⟨h1, s, by rw [backE_out hi]; exact h2, h3⟩
/-- a list in the making is lent out to nobody -/
theorem RE.hide {D : Addr} {xs : List PyData} {acc : List V} (re : RE K W Hs H σ δ) (f : FrO K W Hs H σ δ D xs) (ha : H D = some (.lst acc)) : RE K { W with G := upd W.G D (.lst acc) } Hs H σ δ where
  ex := re.ex
  fg := fun a o q => by
    by_cases e : a = D
    · subst e
      have q : upd W.G a (.lst acc) a = some o := q
      rw [upd_same] at q
      cases q
      exact ⟨ha, f.hs⟩
    · have q : upd W.G D (.lst acc) a = some o := q
      rw [upd_ne e] at q
      exact re.fg a o q
  len := re.len
  sh := re.sh
  ow := fun i s q w => by
    obtain ⟨a, o, h1, h2, h3, h4, h5⟩ := re.ow i s q w
    refine ⟨a, o, h1, h2, h3, h4, ?_⟩
    have e : a ≠ D := fun z => f.ne i s q w (z ▸ h1)
    show upd W.G D (.lst acc) a = none
    rw [upd_ne e]
    exact h5
  ap := re.ap
  pin := re.pin
theorem RE.shown {D : Addr} {o u : HO} (re : RE K { W with G := upd W.G D o } Hs H σ δ) (hg : W.G D = none) : RE K W Hs (upd H D u) σ δ where
  ex := fun a o' q => by
    have h := (re.fg D o (by show upd W.G D o D = _; rw [upd_same])).2
    have e : a ≠ D := fun z => by rw [z, h] at q; cases q
    rw [upd_ne e]
    exact re.ex a o' q
  fg := fun a o' q => by
    have e : a ≠ D := fun z => by rw [z, hg] at q; cases q
    rw [upd_ne e]
    exact re.fg a o' (by show upd W.G D o a = _; rw [upd_ne e]; exact q)
  len := re.len
  sh := re.sh
  ow := fun i s q w => by
    obtain ⟨a, o', h1, h2, h3, h4, h5⟩ := re.ow i s q w
    have h5 : upd W.G D o a = none := h5
    have e : a ≠ D := fun z => by rw [z, upd_same] at h5; cases h5
    rw [upd_ne e] at h5
    exact ⟨a, o', h1, by rw [upd_ne e]; exact h2, h3, h4, h5⟩
  ap := re.ap
  pin := re.pin
theorem RE.hidden {D : Addr} {o : HO} (re : RE K { W with G := upd W.G D o } Hs H σ δ) (i : Nat) (s : Sl) (q : δ[i]? = some s) (w : s.own = true) : σ[i]? ≠ some (some (V.ref D)) := fun z => by
  obtain ⟨a, o', h1, h2, h3, h4, h5⟩ := re.ow i s q w
  rw [h1] at z
  cases z
  have h5 : upd W.G D o D = none := h5
  rw [upd_same] at h5
  cases h5
end
def mWipe (vs : List Nat) : M Unit := fun δ => .ok () (wipeE δ vs)
def compL (vs : List Nat) (g : D → M Unit) (mt : M Bool) (me : M D) : List D → M (List D)
  | [] => mPure []
  | d :: ds => fun δ => match g d δ with
    | .ok _ δ1 => mBind mt (fun b => if b then mBind me (fun y => mBind (mWipe vs) fun _ => mBind (compL vs g mt me ds) fun ys => mPure (y :: ys)) else mBind (mWipe vs) fun _ => compL vs g mt me ds) δ1
    | _ => .bad
def compE (vs : List Nat) (g : D → M Unit) (mt : M Bool) (me : M D) (ds : List D) : M (List D) := fun δ =>
  if (vs.all fun i => !(δ.getD i .no).own) = true ∧ ds.length ≤ sizeLine then
    match compL vs g mt me ds (wipeE δ vs) with
    | .ok ys δ2 => .ok ys (backE δ δ2 vs)
    | _ => .bad
  else .bad
def mComp (mi : M (List D)) (vs : List Nat) (g : D → M Unit) (mt : M Bool) (me : M D) : M (List D) := mBind mi (compE vs g mt me)
def mYes : M Bool := mPure true
end Dn
namespace Dn
open PySem PySem.Spec PyProof.Rows L2

section
variable {X : Cx} {E : XQ} {ps : List Nat} {tg e elt iter : Expr} {ifs : List Expr} {pos : Pos} {vs gv : List Nat} {mi : M (List D)} {g : D → M Unit} {mt : M Bool} {me : M D}
/-- what a comprehension's block makes, read off its parts -/
theorem lc_read (hgv : ∀ i ∈ gv, i ∈ vs) (hps : ∀ i ∈ vs, i ∉ ps) {σ : L2.St} {H : Hp} {Q : VK} (h : tOfO X.K E ps (mComp mi vs g mt me) σ H Q) :
    tLc (tOfI X.K E ps mi) (gOf X.K noX ps gv g) (tOfT X.K noX ps mt) (tOf X.K noX ps me) vs σ H Q := by
  obtain ⟨W, Hs, δ, hp, re, po⟩ := h
  have hpn : ∀ i ∈ vs, i ∉ W.pn.map (·.1) := fun i hi => by rw [hp]; exact hps i hi
  refine Cf.step hp re po fun ds Hs1 H1 δ1 e1 re1 po1 J hJ C hC => ?_
  unfold compE at po1
  split at po1
  · rename_i hcond
    obtain ⟨hno', hlen⟩ := hcond
    have hno : ∀ i ∈ vs, (δ1.getD i .no).own = false := fun i hi => by
      have := List.all_eq_true.mp hno' i hi
      simpa using this
    cases hcl : compL vs g mt me ds (wipeE δ1 vs) with
    | ok ys δf =>
      rw [hcl] at po1
      have en : Ex H1 (upd H1 C (.lst [])) := ex_new hC
      have gC : W.G C = none := by
        cases q : W.G C with
        | none => rfl
        | some u => have := (re1.fg C u q).1; rw [hC] at this; cases this
      have re2 := (re1.newH en).wipe (vs := vs) hpn
      have f0 : FrO X.K W Hs1 (upd H1 C (.lst [])) (wipe σ vs) (wipeE δ1 vs) C [] := ⟨⟨[], upd_same, .nil⟩, ex_none re1.ex hC, gC, fun i s q w z => by
        obtain ⟨a, o, h1, h2, _⟩ := (re1.wipe (vs := vs) hpn).ow i s q w
        rw [h1] at z
        cases z
        rw [hC] at h2; cases h2⟩
      refine ⟨fun i m H' => m = ds.length - i ∧ i ≤ ds.length ∧ ∃ Hs2 δ2 done ys2, Ex Hs1 Hs2 ∧ RE X.K W Hs2 H' (wipe σ vs) δ2 ∧ FrO X.K W Hs2 H' (wipe σ vs) δ2 C done ∧ done.length ≤ i ∧ compL vs g mt me (ds.drop i) δ2 = .ok ys2 δf ∧ done ++ ys2 = ys,
        ⟨ds.length, rfl, Nat.zero_le _, Hs1, _, [], ys, Ex.refl _, re2, f0, Nat.le_refl _, hcl, rfl⟩, ?_⟩
      rintro i m H' ⟨hm, hi, Hs2, δ2, done, ys2, e2, re3, f3, hdl, hc3, hys⟩
      obtain ⟨j1, j2⟩ := hJ Hs2 H' e2 re3.ex i
      by_cases hlt : i < ds.length
      · have hd : ds[i]? = some ds[i] := List.getElem?_eq_getElem hlt
        obtain ⟨g1, g2⟩ := j1 _ hd
        refine .inr ⟨g1, fun H3 => ∃ Hs3 δ3 done ys2, Ex Hs1 Hs3 ∧ RE X.K W Hs3 H3 (wipe σ vs) δ3 ∧ FrO X.K W Hs3 H3 (wipe σ vs) δ3 C done ∧ done.length ≤ i + 1 ∧ compL vs g mt me (ds.drop (i + 1)) δ3 = .ok ys2 δf ∧ done ++ ys2 = ys,
          fun H3 hN => ⟨ds.length - (i + 1), by omega, rfl, hlt, hN⟩, fun x H3 y => ?_⟩
        obtain ⟨Hs3, gr, rx⟩ := g2 x H3 y
        obtain ⟨acc, ha, hr⟩ := f3.at_
        have re4 := re3.grow gr
        have f4 : FrO X.K W Hs3 H3 (wipe σ vs) δ2 C done := ⟨⟨acc, gr.h C _ ha, hr.ex gr.s⟩, by rw [gr.f C (by rw [ha]; simp)]; exact f3.hs, f3.g, f3.ne⟩
        have re5 := re4.hide f4 (gr.h C _ ha)
        rw [List.drop_eq_getElem_cons hlt] at hc3
        unfold compL at hc3
        have hp' : ({ W with G := upd W.G C (.lst acc) } : Wd).pn.map (·.1) = ps := hp
        refine ⟨{ W with G := upd W.G C (.lst acc) }, Hs3, δ2, ds[i], hp', re5, rx, ?_⟩
        cases q : g ds[i] δ2 with
        | ok u δ4 =>
          rw [q] at hc3
          refine fun σ4 Hs4 H4 e4 re6 of4 => ⟨wipe_off of4 hgv, ?_⟩
          dsimp only at hc3
          -- a turn's end: the names wiped, the list as it is then
          have turn : ∀ {Hs5 H5 : Hp} {δ5 : Env} {u : HO}, RE X.K { W with G := upd W.G C (.lst acc) } Hs5 H5 σ4 δ5 → RE X.K W Hs5 (upd H5 C u) (wipe σ vs) (wipeE δ5 vs) ∧ (∀ (i : Nat) (s : Sl), (wipeE δ5 vs)[i]? = some s → s.own = true → (wipe σ vs)[i]? ≠ some (some (V.ref C))) ∧ Hs5 C = none ∧ H5 C = some (.lst acc) := fun {Hs5 H5 δ5 u} re7 => by
            have rw7 := re7.wipe (vs := vs) hpn
            rw [wipe_off of4 hgv] at rw7
            have hf := re7.fg C (.lst acc) (by show upd W.G C _ C = _; rw [upd_same])
            exact ⟨rw7.shown f3.g, rw7.hidden, hf.2, hf.1⟩
          refine ⟨_, Hs4, δ4, hp', re6, ?_⟩
          cases zt : mt δ4 with
          | ok b δ5 =>
            rw [show mBind mt _ δ4 = _ from by unfold mBind; rw [zt]] at hc3
            dsimp only at hc3
            refine fun Hs5 H5 e5 re7 => ?_
            cases b with
            | true =>
              rw [if_pos rfl] at hc3 ⊢
              refine ⟨_, Hs5, δ5, hp', re7, ?_⟩
              cases ze : me δ5 with
              | ok yv δ6 =>
                rw [ze] at hc3
                refine fun Hs6 H6 e6 re8 v rv => ?_
                obtain ⟨t1, t2, t3, t4⟩ := turn (u := .lst (acc ++ [v])) re8
                have hal : acc.length = done.length := hr.length
                refine ⟨acc, t4, by omega, ?_⟩
                have hc4 : mBind (compL vs g mt me (ds.drop (i + 1))) (fun ys => mPure (yv :: ys)) (wipeE δ6 vs) = .ok ys2 δf := hc3
                cases zr : compL vs g mt me (ds.drop (i + 1)) (wipeE δ6 vs) with
                | ok ys3 δ7 =>
                  unfold mBind at hc4
                  rw [zr] at hc4
                  have hc5 : Res.ok (yv :: ys3) δ7 = Res.ok ys2 δf := hc4
                  injection hc5 with k1 k2
                  subst k1; subst k2
                  have e16 : Ex Hs1 Hs6 := (((e2.trans gr.s).trans e4).trans e5).trans e6
                  exact ⟨Hs6, _, done ++ [yv], ys3, e16, t1, ⟨⟨acc ++ [v], upd_same, (hr.ex (((gr.s).trans e4).trans (e5.trans e6))).snoc rv⟩, t3, f3.g, t2⟩, by simp; exact hdl, zr, by rw [← hys]; simp⟩
                | exc x δ7 => unfold mBind at hc4; rw [zr] at hc4; cases hc4
                | bad => unfold mBind at hc4; rw [zr] at hc4; cases hc4
              | exc x δ6 => rw [ze] at hc3; cases hc3
              | bad => rw [ze] at hc3; cases hc3
            | false =>
              rw [if_neg Bool.false_ne_true] at hc3 ⊢
              obtain ⟨t1, t2, t3, t4⟩ := turn (u := .lst acc) re7
              have hu : upd H5 C (.lst acc) = H5 := by
                funext b
                by_cases hb : b = C
                · subst hb; rw [upd_same, t4]
                · rw [upd_ne hb]
              rw [hu] at t1
              have hc4 : compL vs g mt me (ds.drop (i + 1)) (wipeE δ5 vs) = .ok ys2 δf := hc3
              exact ⟨Hs5, _, done, ys2, ((e2.trans gr.s).trans e4).trans e5, t1, ⟨⟨acc, t4, hr.ex ((gr.s.trans e4).trans e5)⟩, t3, f3.g, t2⟩, by omega, hc4, hys⟩
          | exc x δ5 => rw [show mBind mt _ δ4 = _ from by unfold mBind; rw [zt]] at hc3; cases hc3
          | bad => rw [show mBind mt _ δ4 = _ from by unfold mBind; rw [zt]] at hc3; cases hc3
        | exc x δ4 => rw [q] at hc3; cases hc3
        | bad => rw [q] at hc3; cases hc3
      · have ei : i = ds.length := by omega
        subst ei
        rw [List.drop_length] at hc3
        have hc4 : Res.ok ([] : List D) δ2 = Res.ok ys2 δf := hc3
        injection hc4 with k1 k2
        subst k1; subst k2
        rw [List.append_nil] at hys
        subst hys
        refine .inl ⟨j2 (List.getElem?_eq_none_iff.mpr (Nat.le_refl _)), ?_⟩
        have rb := re1.back re3 e2 hno hpn
        refine po1 Hs2 H' e2 rb C ⟨f3.at_, f3.hs, f3.g, fun i s q w => ?_⟩
        by_cases hi' : i ∈ vs
        · have z := backE_in hi' q
          rw [z, hno i hi'] at w
          cases w
        · rw [backE_out hi'] at q
          rw [← wipe_out hi']
          exact f3.ne i s q w
    | exc x δf => rw [hcl] at po1; exact po1.elim
    | bad => rw [hcl] at po1; exact po1.elim
  · exact po1.elim
theorem jts_nil : PTs X [] (tOfT X.K E ps mYes) := ⟨fun pins s σ H Q I ⟨W, Hs, δ, hp, re, po⟩ => pts_nil.run pins s σ H Q I (Post.of po re)⟩
theorem jts_one {c : Expr} (h : PT X c (tOfT X.K E ps mt)) : PTs X [c] (tOfT X.K E ps mt) := pts_one h
theorem jo_comp {scope : Scope} {own : List (Str × Nat)} (hgv : ∀ i ∈ gv, i ∈ own.map (·.2)) (hps : ∀ i ∈ own.map (·.2), i ∉ ps) (hc : X.calm = true) (hN : X.N.Nodup) (hi : PI X tg iter (tOfI X.K E ps mi)) (ok : BlkOk X.N X.env.scope scope own)
    (hg : ∀ (s : Shared) (H : Hp) (C : Addr) (cl : List (Str × Addr)) (fp : List Addr), PG (X.blk s H scope (compEnvC scope cl C X.env) fp) tg (gOf X.K noX ps gv g)) (ht : ∀ (s : Shared) (H : Hp) (C : Addr) (cl : List (Str × Addr)) (fp : List Addr), PTs (X.blk s H scope (compEnvC scope cl C X.env) fp) ifs (tOfT X.K noX ps mt))
    (he : ∀ (s : Shared) (H : Hp) (C : Addr) (cl : List (Str × Addr)) (fp : List Addr), PE (X.blk s H scope (compEnvC scope cl C X.env) fp) elt (tOf X.K noX ps me)) (hs : ∀ x, foldedSetIterable iter X.env x = pure x := by intro _; rfl) :
    PE X (.ListComp elt [⟨tg, iter, ifs, 0⟩] scope pos) (tOfO X.K E ps (mComp mi (own.map (·.2)) g mt me)) :=
  pe_imp (pe_lc hc hN hi ok hg ht he hs) fun σ H Q h => lc_read hgv hps h
/-- shared data at last -/
def mFr (m : M (List D)) : M D := mBind m fun xs => mPure (.list xs)
theorem frS {m : M (List D)} {σ : L2.St} {H : Hp} {Q : VK} (h : tOf X.K E ps (mFr m) σ H Q) : tOfO X.K E ps m σ H Q := by
  obtain ⟨W, Hs, δ, hp, re, po⟩ := h
  refine Cf.step hp re po fun xs Hs1 H1 δ1 e1 re1 po1 a fa => ?_
  obtain ⟨Hs2, k1, k2, k3⟩ := re1.freeze fa
  exact po1 Hs2 H1 k1 k2 _ k3
theorem je_fr {m : M (List D)} (h : PE X e (tOfO X.K E ps m)) : PE X e (tOf X.K E ps (mFr m)) := pe_imp h fun σ H Q q => frS q
/-- y = [..] on one line -/
theorem js_lcO {i : Nat} {y : Str} {py : Pos} {scope : Scope} {own : List (Str × Nat)} {spos : Pos} (hips : i ∉ ps) (hgv : ∀ i ∈ gv, i ∈ own.map (·.2)) (hps : ∀ i ∈ own.map (·.2), i ∉ ps) (hc : X.calm = true) (hN : X.N.Nodup) (hy : X.N[i]? = some y) (hyl : X.env.scope.names.lookup y = some .local)
    (hsw : swapsWith (.ListComp elt [⟨tg, iter, ifs, 0⟩] scope pos) (some (.Name y py)) spos.line X.env = pure true) (hi : PI X tg iter (tOfI X.K E ps mi)) (ok : BlkOk X.N X.env.scope scope own)
    (hg : ∀ (s : Shared) (H : Hp) (C : Addr) (cl : List (Str × Addr)) (fp : List Addr), PG (X.blk s H scope (compEnvC scope cl C X.env) fp) tg (gOf X.K noX ps gv g)) (ht : ∀ (s : Shared) (H : Hp) (C : Addr) (cl : List (Str × Addr)) (fp : List Addr), PTs (X.blk s H scope (compEnvC scope cl C X.env) fp) ifs (tOfT X.K noX ps mt))
    (he : ∀ (s : Shared) (H : Hp) (C : Addr) (cl : List (Str × Addr)) (fp : List Addr), PE (X.blk s H scope (compEnvC scope cl C X.env) fp) elt (tOf X.K noX ps me)) (hs : ∀ x, foldedSetIterable iter X.env x = pure x := by intro _; rfl) :
    PS X (.Assign [.Name y py] (.ListComp elt [⟨tg, iter, ifs, 0⟩] scope pos) spos) (tOfS X.K E ps (mSetO i (mComp mi (own.map (·.2)) g mt me))) :=
  pst_imp (ps_setLc hc hN hy hyl hsw hi ok hg ht he hs) fun B σ H ⟨W, Hs, δ, hp, re, po⟩ => lc_read hgv hps (tOfO.stepS hp re po fun a xs Hs1 H1 δ1 e1 re1 f1 po1 => PostS.of po1 (re1.setOw f1 (by rw [hp]; exact hips)))
theorem js_lc {i : Nat} {y : Str} {py : Pos} {scope : Scope} {own : List (Str × Nat)} {spos : Pos} (hips : i ∉ ps) (hgv : ∀ i ∈ gv, i ∈ own.map (·.2)) (hps : ∀ i ∈ own.map (·.2), i ∉ ps) (hc : X.calm = true) (hN : X.N.Nodup) (hy : X.N[i]? = some y) (hyl : X.env.scope.names.lookup y = some .local)
    (hsw : swapsWith (.ListComp elt [⟨tg, iter, ifs, 0⟩] scope pos) (some (.Name y py)) spos.line X.env = pure true) (hi : PI X tg iter (tOfI X.K E ps mi)) (ok : BlkOk X.N X.env.scope scope own)
    (hg : ∀ (s : Shared) (H : Hp) (C : Addr) (cl : List (Str × Addr)) (fp : List Addr), PG (X.blk s H scope (compEnvC scope cl C X.env) fp) tg (gOf X.K noX ps gv g)) (ht : ∀ (s : Shared) (H : Hp) (C : Addr) (cl : List (Str × Addr)) (fp : List Addr), PTs (X.blk s H scope (compEnvC scope cl C X.env) fp) ifs (tOfT X.K noX ps mt))
    (he : ∀ (s : Shared) (H : Hp) (C : Addr) (cl : List (Str × Addr)) (fp : List Addr), PE (X.blk s H scope (compEnvC scope cl C X.env) fp) elt (tOf X.K noX ps me)) (hs : ∀ x, foldedSetIterable iter X.env x = pure x := by intro _; rfl) :
    PS X (.Assign [.Name y py] (.ListComp elt [⟨tg, iter, ifs, 0⟩] scope pos) spos) (tOfS X.K E ps (mSet i (mFr (mComp mi (own.map (·.2)) g mt me)))) :=
  pst_imp (ps_setLc hc hN hy hyl hsw hi ok hg ht he hs) fun B σ H ⟨W, Hs, δ, hp, re, po⟩ => lc_read hgv hps (by
    have po' : PostF X.K E W Hs (mBind (mComp mi (own.map (·.2)) g mt me) (fun xs => fun δ => .ok .nx (δ.set i (.sh (.list xs)))) δ) B := by
      have e : mSet i (mFr (mComp mi (own.map (·.2)) g mt me)) δ = mBind (mComp mi (own.map (·.2)) g mt me) (fun xs => fun δ => .ok .nx (δ.set i (.sh (.list xs)))) δ := by
        unfold mSet mFr mBind mPure
        cases mComp mi (own.map (·.2)) g mt me δ <;> rfl
      rw [← e]; exact po
    refine tOfO.stepS hp re po' fun a xs Hs1 H1 δ1 e1 re1 f1 po1 => ?_
    obtain ⟨Hs2, k1, k2, k3⟩ := re1.freeze f1
    exact PostS.of (PostS.ex po1 k1) (k2.setSh k3 (by rw [hp]; exact hips)))
end
end Dn
namespace Dn
open PySem PySem.Spec PyProof.Rows L2

/-- what is left of the slots behind a def: a caller's own lists -/
def outs (ps : List Nat) (n : Nat) (δ : Env) : Env := (List.range n).map fun i => if i ∈ ps then δ.getD i .no else .no
def fnF (n N : Nat) (ps : List Nat) (mb : M Fl) : Env → Res Sl := fun as => match mb (as ++ List.replicate (N - n) .no) with
  | .ok (.rt s) δ' => .ok s (outs ps n δ')
  | .ok .nx δ' => .ok (.sh .none) (outs ps n δ')
  | .exc x δ' => .exc x (outs ps n δ')
  | _ => .bad
def RetR (K : Frag) (W : Wd) (Hs H : Hp) (σ : L2.St) (δ : Env) (s : Sl) (Q : VK) : Prop := match s with
  | .sh d => ∀ v, Rp K Hs v d → Q v H
  | .ow xs => ∀ a, FrO K W Hs H σ δ a xs → Q (.ref a) H
  | .no => False
/-- what a def promises: F, upon what its parameters hold -/
def spF (K : Frag) (n : Nat) (ps : List Nat) (F : Env → Res Sl) : Sp := fun vs H Q E => vs.length = n ∧ ∃ (W : Wd) (Hs : Hp) (as : Env), W.pn.map (·.1) = ps ∧ RE K W Hs H (vs.map some) as ∧
  match F as with
  | .ok s as' => ∀ Hs' H', Ex Hs Hs' → RE K W Hs' H' (vs.map some) as' → RetR K W Hs' H' (vs.map some) as' s Q
  | .exc x as' => False
  | .bad => False

theorem outs_get {ps : List Nat} {n i : Nat} {δ : Env} {s : Sl} (h : (outs ps n δ)[i]? = some s) (hn : s ≠ .no) : i < n ∧ i ∈ ps ∧ δ[i]? = some s := by
  unfold outs at h
  rw [List.getElem?_map, Option.map_eq_some_iff] at h
  obtain ⟨j, hj, h⟩ := h
  obtain ⟨hi, hj⟩ := List.getElem?_eq_some_iff.mp hj
  rw [List.getElem_range] at hj
  subst hj
  rw [List.length_range] at hi
  by_cases hp : i ∈ ps
  · rw [if_pos hp] at h
    refine ⟨hi, hp, ?_⟩
    rw [List.getD_eq_getElem?_getD] at h
    cases w : δ[i]? with
    | none => rw [w] at h; exact absurd h.symm hn
    | some t => rw [w] at h; exact congrArg some h
  · rw [if_neg hp] at h
    exact absurd h.symm hn
section
variable {K : Frag} {W : Wd} {Hs H Hs' H' : Hp} {σ : L2.St} {δ δ' : Env} {vs : List V} {N n : Nat} {as : Env}
theorem RE.app (r : RE K W Hs H σ δ) (k : Nat) : RE K W Hs H (σ ++ List.replicate k none) (δ ++ List.replicate k .no) where
  ex := r.ex
  fg := r.fg
  len := by simp [r.len]
  sh := fun i d q => by
    by_cases hi : i < δ.length
    · rw [List.getElem?_append_left hi] at q
      rw [List.getElem?_append_left (by rw [r.len]; exact hi)]
      exact r.sh i d q
    · rw [List.getElem?_append_right (by omega), List.getElem?_replicate] at q
      split at q <;> cases q
  ow := fun i s q w => by
    by_cases hi : i < δ.length
    · rw [List.getElem?_append_left hi] at q
      rw [List.getElem?_append_left (by rw [r.len]; exact hi)]
      exact r.ow i s q w
    · rw [List.getElem?_append_right (by omega), List.getElem?_replicate] at q
      split at q
      · cases q; cases w
      · cases q
  ap := fun i j s t a h1 h2 h3 h4 h5 h6 => by
    have f : ∀ {i : Nat} {s : Sl}, (δ ++ List.replicate k Sl.no)[i]? = some s → s.own = true → i < δ.length := fun {i s} q w => by
      by_cases hi : i < δ.length
      · exact hi
      · rw [List.getElem?_append_right (by omega), List.getElem?_replicate] at q
        split at q
        · cases q; cases w
        · cases q
    have li := f h1 h2
    have lj := f h3 h4
    rw [List.getElem?_append_left li] at h1
    rw [List.getElem?_append_left lj] at h3
    rw [List.getElem?_append_left (by rw [r.len]; exact li)] at h5
    rw [List.getElem?_append_left (by rw [r.len]; exact lj)] at h6
    exact r.ap i j s t a h1 h2 h3 h4 h5 h6
  pin := fun p hp => by
    obtain ⟨h1, s, h2, h3⟩ := r.pin p hp
    have l1 := (List.getElem?_eq_some_iff.mp h1).1
    have l2 := (List.getElem?_eq_some_iff.mp h2).1
    exact ⟨by rw [List.getElem?_append_left l1]; exact h1, s, by rw [List.getElem?_append_left l2]; exact h2, h3⟩
/-- behind a def's body -/
theorem RE.outs {ps : List Nat} (r0 : RE K W Hs H (vs.map some) as) (hp : W.pn.map (·.1) = ps) (r : RE K W Hs' H' σ δ) : RE K W Hs' H' (vs.map some) (outs ps vs.length δ) := by
  have f : ∀ {i : Nat} {s : Sl}, (Dn.outs ps vs.length δ)[i]? = some s → s ≠ .no → δ[i]? = some s ∧ (vs.map some)[i]? = σ[i]? ∧ s.own = true := fun {i s} q hn => by
    obtain ⟨h1, h2, h3⟩ := outs_get q hn
    rw [← hp] at h2
    obtain ⟨p, hpm, hpe⟩ := List.mem_map.mp h2
    obtain ⟨a1, _⟩ := r0.pin p hpm
    obtain ⟨b1, s', b2, b3⟩ := r.pin p hpm
    rw [hpe] at a1 b1 b2
    rw [h3] at b2
    cases b2
    exact ⟨h3, a1.trans b1.symm, b3⟩
  exact {
    ex := r.ex
    fg := r.fg
    len := by simp [Dn.outs]
    sh := fun i d q => by
      obtain ⟨h1, h2, h3⟩ := f q (by simp)
      cases h3
    ow := fun i s q w => by
      obtain ⟨h1, h2, h3⟩ := f q (by rintro rfl; cases w)
      rw [h2]
      exact r.ow i s h1 w
    ap := fun i j s t a h1 h2 h3 h4 h5 h6 => by
      obtain ⟨a1, a2, _⟩ := f h1 (by rintro rfl; cases h2)
      obtain ⟨b1, b2, _⟩ := f h3 (by rintro rfl; cases h4)
      rw [a2] at h5
      rw [b2] at h6
      exact r.ap i j s t a a1 h2 b1 h4 h5 h6
    pin := fun p hpm => by
      obtain ⟨a1, _⟩ := r0.pin p hpm
      obtain ⟨b1, s', b2, b3⟩ := r.pin p hpm
      refine ⟨a1, s', ?_, b3⟩
      have hl : p.1 < vs.length := by
        have := (List.getElem?_eq_some_iff.mp a1).1
        simpa using this
      unfold Dn.outs
      rw [List.getElem?_map, List.getElem?_range hl]
      have hm : p.1 ∈ ps := by rw [← hp]; exact List.mem_map_of_mem hpm
      simp only [Option.map_some, if_pos hm]
      rw [List.getD_eq_getElem?_getD, b2]
      rfl }
theorem FrO.outs {ps : List Nat} {a : Addr} {xs : List D} (r0 : RE K W Hs H (vs.map some) as) (hp : W.pn.map (·.1) = ps) (r : RE K W Hs' H' σ δ) (f : FrO K W Hs' H' σ δ a xs) : FrO K W Hs' H' (vs.map some) (Dn.outs ps vs.length δ) a xs :=
  ⟨f.at_, f.hs, f.g, fun i s q w => by
    obtain ⟨h1, h2, h3⟩ := outs_get q (by rintro rfl; cases w)
    rw [← hp] at h2
    obtain ⟨p, hpm, hpe⟩ := List.mem_map.mp h2
    obtain ⟨a1, _⟩ := r0.pin p hpm
    obtain ⟨b1, _⟩ := r.pin p hpm
    rw [hpe] at a1 b1
    rw [a1, ← b1]
    exact f.ne i s h3 w⟩
end
section
variable {P : Program} {w : World} {K : Frag} {mg : Str → Option Value} {base : Heap}
/-- a def keeps its promise: by its body as a run upon data -/
theorem fn_J {x qual : Str} {st : Stmt} {f : Addr} {fd : FuncData} {N pr : List Str} {k n nN : Nat} {ps : List Nat} {mb : M Fl} (F : Fun K x qual st f fd) (S : FnScope N pr (defScope st)) (hn : pr.length = n) (hN : N.length = nN) (hle : n ≤ nN)
    (hbody : ∀ (cdv : Value) (A : Around) (outer : List PySem.Env) (s : Shared) (H : Hp) (E : XK), Room k (A.deeper (envOfC qual (defScope st) s.heap.objs.size f cdv)) →
      PSs (cxOf CX0 P w K mg base N qual (defScope st) f cdv A outer s H E).nox (defBody st) (tOfS K noX ps mb)) : FnOk P w K mg base CX0 (k + 1) f fd pr (spF K n ps (fnF n nN ps mb)) := by
  refine F.ok S (fun vs H Q E h => by rw [h.1, hn]) fun cdv A outer s H vs Q E hr h => ⟨_, hbody cdv A outer s H E hr, ?_⟩
  obtain ⟨hl, W, Hs, as, hp, re, po⟩ := h
  have hst : L2.start N vs = vs.map some ++ List.replicate (nN - n) none := by unfold L2.start; rw [hN, hl]
  refine ⟨W, Hs, as ++ List.replicate (nN - n) .no, hp, by rw [hst]; exact re.app _, ?_⟩
  unfold fnF at po
  cases q : mb (as ++ List.replicate (nN - n) .no) with
  | ok fl δ' =>
    rw [q] at po
    cases fl with
    | nx =>
      intro σ' Hs' H' e r
      have hr' := re.outs hp r
      rw [hl] at hr'
      exact po Hs' H' e hr' .non .non
    | rt sl =>
      cases sl with
      | sh d =>
        intro σ' Hs' H' e r v rv
        have hr' := re.outs hp r
        rw [hl] at hr'
        exact po Hs' H' e hr' v rv
      | ow xs =>
        intro σ' Hs' H' e r a fa
        have hr' := re.outs hp r
        have hf := FrO.outs re hp r fa
        rw [hl] at hr' hf
        exact po Hs' H' e hr' a hf
      | no =>
        intro σ' Hs' H' e r
        have hr' := re.outs hp r
        rw [hl] at hr'
        exact po Hs' H' e hr'
    | bk => exact po.elim
    | ct => exact po.elim
  | exc x δ' => rw [q] at po; exact po.elim
  | bad => rw [q] at po; exact po.elim
end

def agSl (δ : Env) : Ag → Sl
  | .sh d => .sh d
  | .ow i => δ.getD i .no
def ownAt : Nat → List Ag → List Nat
  | _, [] => []
  | k, .sh _ :: gs => ownAt (k + 1) gs
  | k, .ow _ :: gs => k :: ownAt (k + 1) gs
def ownIx : List Ag → List Nat
  | [] => []
  | .sh _ :: gs => ownIx gs
  | .ow i :: gs => i :: ownIx gs
def putBack (δ : Env) : List Ag → List Sl → Env
  | .ow i :: gs, s :: ss => (putBack δ gs ss).set i s
  | .sh _ :: gs, _ :: ss => putBack δ gs ss
  | _, _ => δ
def callF (n : Nat) (ps : List Nat) (F : Env → Res Sl) (gs : List Ag) : M Sl := fun δ =>
  if gs.length = n ∧ ownAt 0 gs = ps ∧ (ownIx gs).Nodup ∧ ((ownIx gs).all fun i => (δ.getD i .no).own) = true then
    match F (gs.map (agSl δ)) with
    | .ok s as' => .ok s (putBack δ gs as')
    | _ => .bad
  else .bad
def mCall (n : Nat) (ps : List Nat) (F : Env → Res Sl) (as : List AM) : M Sl := mBind (evA as) (callF n ps F)
end Dn
namespace Dn
open PySem PySem.Spec PyProof.Rows L2

theorem putBack_length (δ : Env) : ∀ (gs : List Ag) (ss : List Sl), (putBack δ gs ss).length = δ.length
  | [], _ => rfl
  | .sh _ :: _, [] => rfl
  | .ow _ :: _, [] => rfl
  | .ow i :: gs, s :: ss => by unfold putBack; rw [List.length_set, putBack_length δ gs ss]
  | .sh _ :: gs, _ :: ss => by unfold putBack; rw [putBack_length δ gs ss]
theorem putBack_get {δ : Env} {i : Nat} {s : Sl} : ∀ {gs : List Ag} {ss : List Sl}, gs.length = ss.length → (putBack δ gs ss)[i]? = some s → (i ∉ ownIx gs ∧ δ[i]? = some s) ∨ ∃ j : Nat, gs[j]? = some (Ag.ow i) ∧ ss[j]? = some s
  | [], [], _, q => .inl ⟨by simp [ownIx], q⟩
  | [], _ :: _, h, _ => by simp at h
  | _ :: _, [], h, _ => by simp at h
  | .sh _ :: gs, t :: ss, h, q => by
    unfold putBack at q
    rcases putBack_get (by simpa using h) q with ⟨h1, h2⟩ | ⟨j, h1, h2⟩
    · exact .inl ⟨by simpa [ownIx] using h1, h2⟩
    · exact .inr ⟨j + 1, by simpa using h1, by simpa using h2⟩
  | .ow k :: gs, t :: ss, h, q => by
    unfold putBack at q
    rcases setGet q with ⟨e, z⟩ | ⟨e, z⟩
    · subst e; subst z
      exact .inr ⟨0, rfl, rfl⟩
    · rcases putBack_get (by simpa using h) z with ⟨h1, h2⟩ | ⟨j, h1, h2⟩
      · refine .inl ⟨fun hm => ?_, h2⟩
        rcases List.mem_cons.mp (show i ∈ k :: ownIx gs from hm) with e' | hm
        · exact e e'
        · exact h1 hm
      · exact .inr ⟨j + 1, by simpa using h1, by simpa using h2⟩
theorem mem_ownIx {i : Nat} : ∀ {gs : List Ag} {j : Nat}, gs[j]? = some (Ag.ow i) → i ∈ ownIx gs
  | [], j, h => by simp at h
  | g :: gs, 0, h => by
    have e : g = .ow i := by simpa using h
    subst e
    exact List.mem_cons_self
  | g :: gs, j + 1, h => by
    have z := mem_ownIx (gs := gs) (j := j) (by simpa using h)
    cases g with
    | sh d => exact z
    | ow k => exact List.mem_cons_of_mem _ z
theorem ownIx_one {i : Nat} : ∀ {gs : List Ag} {j k : Nat}, (ownIx gs).Nodup → gs[j]? = some (Ag.ow i) → gs[k]? = some (Ag.ow i) → j = k
  | [], j, k, _, h, _ => by simp at h
  | g :: gs, 0, 0, _, _, _ => rfl
  | g :: gs, 0, k + 1, n, h, h' => by
    have e : g = .ow i := by simpa using h
    subst e
    have z := mem_ownIx (gs := gs) (j := k) (by simpa using h')
    exact absurd z (List.nodup_cons.mp n).1
  | g :: gs, j + 1, 0, n, h, h' => by
    have e : g = .ow i := by simpa using h'
    subst e
    have z := mem_ownIx (gs := gs) (j := j) (by simpa using h)
    exact absurd z (List.nodup_cons.mp n).1
  | g :: gs, j + 1, k + 1, n, h, h' => by
    have n' : (ownIx gs).Nodup := by
      cases g with
      | sh d => exact n
      | ow q => exact (List.nodup_cons.mp n).2
    have z : j = k := ownIx_one (gs := gs) (i := i) n' (by simpa using h) (by simpa using h')
    rw [z]
theorem AgR.len {K : Frag} {Hs : Hp} {σ : L2.St} : ∀ {vs : List V} {gs : List Ag}, AgR K Hs σ vs gs → vs.length = gs.length
  | [], [], _ => rfl
  | [], _ :: _, h => h.elim
  | _ :: _, [], h => h.elim
  | _ :: _, .sh _ :: _, h => by rw [List.length_cons, List.length_cons, AgR.len h.2]
  | _ :: _, .ow _ :: _, h => by rw [List.length_cons, List.length_cons, AgR.len h.2]
theorem AgR.sh_ {K : Frag} {Hs : Hp} {σ : L2.St} {d : D} : ∀ {vs : List V} {gs : List Ag} {j : Nat}, AgR K Hs σ vs gs → gs[j]? = some (Ag.sh d) → ∃ v, vs[j]? = some v ∧ Rp K Hs v d
  | [], [], j, _, q => by simp at q
  | [], _ :: _, _, h, _ => h.elim
  | _ :: _, [], _, h, _ => h.elim
  | v :: vs, .sh e :: gs, 0, h, q => by
    have e' : e = d := by simpa using q
    subst e'
    exact ⟨v, rfl, h.1⟩
  | v :: vs, .ow e :: gs, 0, h, q => by simp at q
  | v :: vs, .sh e :: gs, j + 1, h, q => by
    obtain ⟨w, a, b⟩ := AgR.sh_ (j := j) h.2 (by simpa using q)
    exact ⟨w, by simpa using a, b⟩
  | v :: vs, .ow e :: gs, j + 1, h, q => by
    obtain ⟨w, a, b⟩ := AgR.sh_ (j := j) h.2 (by simpa using q)
    exact ⟨w, by simpa using a, b⟩
theorem AgR.ow_ {K : Frag} {Hs : Hp} {σ : L2.St} {i : Nat} : ∀ {vs : List V} {gs : List Ag} {j : Nat}, AgR K Hs σ vs gs → gs[j]? = some (Ag.ow i) → ∃ v, vs[j]? = some v ∧ σ[i]? = some (some v)
  | [], [], j, _, q => by simp at q
  | [], _ :: _, _, h, _ => h.elim
  | _ :: _, [], _, h, _ => h.elim
  | v :: vs, .ow e :: gs, 0, h, q => by
    have e' : e = i := by simpa using q
    subst e'
    exact ⟨v, rfl, h.1⟩
  | v :: vs, .sh e :: gs, 0, h, q => by simp at q
  | v :: vs, .sh e :: gs, j + 1, h, q => by
    obtain ⟨w, a, b⟩ := AgR.ow_ (j := j) h.2 (by simpa using q)
    exact ⟨w, by simpa using a, b⟩
  | v :: vs, .ow e :: gs, j + 1, h, q => by
    obtain ⟨w, a, b⟩ := AgR.ow_ (j := j) h.2 (by simpa using q)
    exact ⟨w, by simpa using a, b⟩
/-- the slots of a callee that stay -/
def pnOf : Nat → List V → List Ag → List (Nat × V)
  | k, _ :: vs, .sh _ :: gs => pnOf (k + 1) vs gs
  | k, v :: vs, .ow _ :: gs => (k, v) :: pnOf (k + 1) vs gs
  | _, _, _ => []
theorem pnOf_fst : ∀ {k : Nat} {vs : List V} {gs : List Ag}, vs.length = gs.length → (pnOf k vs gs).map (·.1) = ownAt k gs
  | _, [], [], _ => rfl
  | _, [], _ :: _, h => by simp at h
  | _, _ :: _, [], h => by simp at h
  | k, v :: vs, .sh _ :: gs, h => by unfold pnOf ownAt; exact pnOf_fst (by simpa using h)
  | k, v :: vs, .ow _ :: gs, h => by unfold pnOf ownAt; rw [List.map_cons, pnOf_fst (by simpa using h)]
theorem pnOf_mem : ∀ {k : Nat} {vs : List V} {gs : List Ag} {p : Nat × V}, p ∈ pnOf k vs gs → ∃ (j i : Nat), p.1 = k + j ∧ vs[j]? = some p.2 ∧ gs[j]? = some (Ag.ow i)
  | _, [], [], p, h => by simp [pnOf] at h
  | _, [], _ :: _, p, h => by simp [pnOf] at h
  | _, _ :: _, [], p, h => by simp [pnOf] at h
  | k, v :: vs, .sh _ :: gs, p, h => by
    obtain ⟨j, i, a, b, c⟩ := pnOf_mem (show p ∈ pnOf (k + 1) vs gs from h)
    exact ⟨j + 1, i, by omega, by simpa using b, by simpa using c⟩
  | k, v :: vs, .ow q :: gs, p, h => by
    rcases List.mem_cons.mp (show p ∈ (k, v) :: pnOf (k + 1) vs gs from h) with e | h
    · subst e
      exact ⟨0, q, rfl, rfl, rfl⟩
    · obtain ⟨j, i, a, b, c⟩ := pnOf_mem h
      exact ⟨j + 1, i, by omega, by simpa using b, by simpa using c⟩
theorem mem_pnOf : ∀ {k : Nat} {vs : List V} {gs : List Ag} {j i : Nat} {v : V}, gs[j]? = some (Ag.ow i) → vs[j]? = some v → (k + j, v) ∈ pnOf k vs gs
  | _, [], _, j, _, _, _, h => by simp at h
  | _, _ :: _, [], j, _, _, h, _ => by simp at h
  | k, w :: vs, .sh _ :: gs, 0, i, v, h, h' => by simp at h
  | k, w :: vs, .ow _ :: gs, 0, i, v, h, h' => by
    have e : w = v := by simpa using h'
    subst e
    exact List.mem_cons_self
  | k, w :: vs, .sh _ :: gs, j + 1, i, v, h, h' => by
    have z := mem_pnOf (k := k + 1) (vs := vs) (gs := gs) (j := j) (i := i) (v := v) (by simpa using h) (by simpa using h')
    rw [show k + 1 + j = k + (j + 1) by omega] at z
    exact z
  | k, w :: vs, .ow _ :: gs, j + 1, i, v, h, h' => by
    have z := mem_pnOf (k := k + 1) (vs := vs) (gs := gs) (j := j) (i := i) (v := v) (by simpa using h) (by simpa using h')
    rw [show k + 1 + j = k + (j + 1) by omega] at z
    exact List.mem_cons_of_mem _ z

section
open Classical
variable {K : Frag} {W : Wd} {Hs H : Hp} {σ : L2.St} {δ : Env} {vs : List V} {gs : List Ag}
/-- what a callee is not to touch -/
def Held (W : Wd) (σ : L2.St) (δ : Env) (gs : List Ag) (a : Addr) : Prop := W.G a ≠ none ∨ ∃ (i : Nat) (s : Sl), δ[i]? = some s ∧ s.own = true ∧ i ∉ ownIx gs ∧ σ[i]? = some (some (V.ref a))
noncomputable def wdOf (W : Wd) (H : Hp) (σ : L2.St) (δ : Env) (vs : List V) (gs : List Ag) : Wd := ⟨pnOf 0 vs gs, fun a => if Held W σ δ gs a then H a else none⟩
theorem wdOf_of {a : Addr} {o : HO} (h : (wdOf W H σ δ vs gs).G a = some o) : Held W σ δ gs a ∧ H a = some o := by
  have h : (if Held W σ δ gs a then H a else none) = some o := h
  by_cases hh : Held W σ δ gs a
  · rw [if_pos hh] at h; exact ⟨hh, h⟩
  · rw [if_neg hh] at h; cases h
theorem wdOf_at {a : Addr} (h : Held W σ δ gs a) : (wdOf W H σ δ vs gs).G a = H a := if_pos h
theorem agSl_ow {i : Nat} {s : Sl} (h : agSl δ (.ow i) = s) (hn : s ≠ .no) : δ[i]? = some s := by
  have h : δ.getD i .no = s := h
  rw [List.getD_eq_getElem?_getD] at h
  cases w : δ[i]? with
  | none => rw [w] at h; exact absurd h.symm hn
  | some t => rw [w] at h; exact congrArg some h
theorem RE.enter (re : RE K W Hs H σ δ) (hv : AgR K Hs σ vs gs) (hnd : (ownIx gs).Nodup) (hown : ∀ i ∈ ownIx gs, (δ.getD i .no).own = true) : RE K (wdOf W H σ δ vs gs) Hs H (vs.map some) (gs.map (agSl δ)) := by
  have own_of : ∀ {j : Nat} {s : Sl}, (gs.map (agSl δ))[j]? = some s → s.own = true → ∃ i v, gs[j]? = some (Ag.ow i) ∧ δ[i]? = some s ∧ vs[j]? = some v ∧ σ[i]? = some (some v) := fun {j s} q w => by
    rw [List.getElem?_map, Option.map_eq_some_iff] at q
    obtain ⟨g, hg, q⟩ := q
    cases g with
    | sh d => subst q; cases w
    | ow i =>
      obtain ⟨v, h1, h2⟩ := hv.ow_ hg
      exact ⟨i, v, hg, agSl_ow q (by rintro rfl; cases w), h1, h2⟩
  exact {
    ex := re.ex
    fg := fun a o q => by
      obtain ⟨h1, h2⟩ := wdOf_of q
      refine ⟨h2, ?_⟩
      rcases h1 with z | ⟨i, s, z1, z2, _, z3⟩
      · cases w : W.G a with
        | none => exact absurd w z
        | some u => exact (re.fg a u w).2
      · obtain ⟨b, u, k1, k2, k3, k4, k5⟩ := re.ow i s z1 z2
        rw [z3] at k1
        cases k1
        exact k4
    len := by rw [List.length_map, List.length_map]; exact hv.len
    sh := fun j d q => by
      rw [List.getElem?_map, Option.map_eq_some_iff] at q
      obtain ⟨g, hg, q⟩ := q
      cases g with
      | sh e =>
        have e' : Sl.sh e = Sl.sh d := q
        cases e'
        obtain ⟨v, h1, h2⟩ := hv.sh_ hg
        exact ⟨v, by rw [List.getElem?_map, h1]; rfl, h2⟩
      | ow i =>
        have z := hown i (mem_ownIx hg)
        have q : δ.getD i .no = .sh d := q
        rw [q] at z
        cases z
    ow := fun j s q w => by
      obtain ⟨i, v, h1, h2, h3, h4⟩ := own_of q w
      obtain ⟨a, o, k1, k2, k3, k4, k5⟩ := re.ow i s h2 w
      rw [h4] at k1
      cases k1
      refine ⟨a, o, by rw [List.getElem?_map, h3]; rfl, k2, k3, k4, ?_⟩
      cases z : (wdOf W H σ δ vs gs).G a with
      | none => rfl
      | some u =>
        obtain ⟨z1, _⟩ := wdOf_of z
        rcases z1 with z1 | ⟨i', s', y1, y2, y3, y4⟩
        · exact absurd k5 z1
        · have := re.ap i i' s s' a h2 w y1 y2 h4 y4
          subst this
          exact absurd (mem_ownIx h1) y3
    ap := fun j k s t a h1 h2 h3 h4 h5 h6 => by
      obtain ⟨i, v, p1, p2, p3, p4⟩ := own_of h1 h2
      obtain ⟨i', v', q1, q2, q3, q4⟩ := own_of h3 h4
      rw [List.getElem?_map, p3] at h5
      rw [List.getElem?_map, q3] at h6
      cases h5
      cases h6
      have := re.ap i i' s t a p2 h2 q2 h4 p4 q4
      subst this
      exact ownIx_one hnd p1 q1
    pin := fun p hp => by
      obtain ⟨j, i, a1, a2, a3⟩ := pnOf_mem (show p ∈ pnOf 0 vs gs from hp)
      have e : p.1 = j := by omega
      rw [e]
      refine ⟨by rw [List.getElem?_map, a2]; rfl, agSl δ (.ow i), by rw [List.getElem?_map, a3]; rfl, hown i (mem_ownIx a3)⟩ }
theorem RE.leave {Hs' H' : Hp} {as' : Env} (re : RE K W Hs H σ δ) (hv : AgR K Hs σ vs gs) (hown : ∀ i ∈ ownIx gs, (δ.getD i .no).own = true) (e : Ex Hs Hs') (r : RE K (wdOf W H σ δ vs gs) Hs' H' (vs.map some) as') : RE K W Hs' H' σ (putBack δ gs as') := by
  have hl : gs.length = as'.length := by rw [← hv.len, ← r.len, List.length_map]
  have kept : ∀ {i : Nat} {s : Sl}, (putBack δ gs as')[i]? = some s → s.own = true → ∃ s0, δ[i]? = some s0 ∧ s0.own = true := fun {i s} q w => by
    rcases putBack_get hl q with ⟨h1, h2⟩ | ⟨j, h1, h2⟩
    · exact ⟨s, h2, w⟩
    · have z := hown i (mem_ownIx h1)
      exact ⟨δ.getD i .no, agSl_ow (δ := δ) (i := i) rfl (fun y => by rw [show δ.getD i .no = Sl.no from y] at z; cases z), z⟩
  have back : ∀ {j i : Nat} {s : Sl}, gs[j]? = some (Ag.ow i) → as'[j]? = some s → s.own = true ∧ ∃ v, vs[j]? = some v ∧ σ[i]? = some (some v) := fun {j i s} h1 h2 => by
    obtain ⟨v, k1, k2⟩ := hv.ow_ h1
    have hm := mem_pnOf (k := 0) h1 k1
    obtain ⟨_, t, t1, t2⟩ := r.pin (0 + j, v) hm
    rw [Nat.zero_add] at t1
    rw [h2] at t1
    cases t1
    exact ⟨t2, v, k1, k2⟩
  have held : ∀ {i : Nat} {s : Sl} {a : Addr}, i ∉ ownIx gs → δ[i]? = some s → s.own = true → σ[i]? = some (some (V.ref a)) → H' a = H a ∧ Hs' a = none := fun {i s a} h1 h2 h3 h4 => by
    have hh : Held W σ δ gs a := .inr ⟨i, s, h2, h3, h1, h4⟩
    obtain ⟨b, o, k1, k2, k3, k4, k5⟩ := re.ow i s h2 h3
    rw [h4] at k1
    cases k1
    have g1 : (wdOf W H σ δ vs gs).G a = some o := by rw [wdOf_at hh]; exact k2
    obtain ⟨z1, z2⟩ := r.fg a o g1
    exact ⟨by rw [z1, k2], z2⟩
  exact {
    ex := r.ex
    fg := fun a o q => by
      have hh : Held W σ δ gs a := .inl (by rw [q]; simp)
      have g1 : (wdOf W H σ δ vs gs).G a = some o := by rw [wdOf_at hh]; exact (re.fg a o q).1
      exact r.fg a o g1
    len := by rw [putBack_length]; exact re.len
    sh := fun i d q => by
      rcases putBack_get hl q with ⟨h1, h2⟩ | ⟨j, h1, h2⟩
      · obtain ⟨v, k1, k2⟩ := re.sh i d h2
        exact ⟨v, k1, k2.ex e⟩
      · have := (back h1 h2).1
        cases this
    ow := fun i s q w => by
      rcases putBack_get hl q with ⟨h1, h2⟩ | ⟨j, h1, h2⟩
      · obtain ⟨a, o, k1, k2, k3, k4, k5⟩ := re.ow i s h2 w
        obtain ⟨z1, z2⟩ := held h1 h2 w k1
        exact ⟨a, o, k1, by rw [z1]; exact k2, k3.ex e, z2, k5⟩
      · obtain ⟨_, v, b1, b2⟩ := back h1 h2
        obtain ⟨a, o, k1, k2, k3, k4, k5⟩ := r.ow j s h2 w
        rw [List.getElem?_map, b1] at k1
        cases k1
        refine ⟨a, o, b2, k2, k3, k4, ?_⟩
        obtain ⟨s0, q1, q2⟩ := kept q w
        obtain ⟨a', o', l1, _, _, _, l5⟩ := re.ow i s0 q1 q2
        rw [b2] at l1
        cases l1
        exact l5
    ap := fun i j s t a h1 h2 h3 h4 h5 h6 => by
      obtain ⟨s0, q1, q2⟩ := kept h1 h2
      obtain ⟨t0, q3, q4⟩ := kept h3 h4
      exact re.ap i j s0 t0 a q1 q2 q3 q4 h5 h6
    pin := fun p hp => by
      obtain ⟨h1, s, h2, h3⟩ := re.pin p hp
      refine ⟨h1, ?_⟩
      have hlt : p.1 < (putBack δ gs as').length := by rw [putBack_length]; exact (List.getElem?_eq_some_iff.mp h2).1
      refine ⟨(putBack δ gs as')[p.1], List.getElem?_eq_getElem hlt, ?_⟩
      rcases putBack_get hl (List.getElem?_eq_getElem hlt) with ⟨z1, z2⟩ | ⟨j, z1, z2⟩
      · rw [h2] at z2
        cases z2
        exact h3
      · exact (back z1 z2).1 }
theorem FrO.leave {Hs' H' : Hp} {as' : Env} {a : Addr} {xs : List D} (re : RE K W Hs H σ δ) (hv : AgR K Hs σ vs gs) (r : RE K (wdOf W H σ δ vs gs) Hs' H' (vs.map some) as') (f : FrO K (wdOf W H σ δ vs gs) Hs' H' (vs.map some) as' a xs) : FrO K W Hs' H' σ (putBack δ gs as') a xs := by
  have hl : gs.length = as'.length := by rw [← hv.len, ← r.len, List.length_map]
  refine ⟨f.at_, f.hs, ?_, fun i s q w z => ?_⟩
  · cases q : W.G a with
    | none => rfl
    | some o =>
      have hh : Held W σ δ gs a := .inl (by rw [q]; simp)
      have := f.g
      rw [wdOf_at hh, (re.fg a o q).1] at this
      cases this
  · rcases putBack_get hl q with ⟨h1, h2⟩ | ⟨j, h1, h2⟩
    · have hh : Held W σ δ gs a := .inr ⟨i, s, h2, w, h1, z⟩
      obtain ⟨b, o, k1, k2, _⟩ := re.ow i s h2 w
      rw [z] at k1
      cases k1
      have := f.g
      rw [wdOf_at hh, k2] at this
      cases this
    · obtain ⟨v, b1, b2⟩ := hv.ow_ h1
      rw [b2] at z
      cases z
      exact f.ne j s h2 w (by rw [List.getElem?_map, b1]; rfl)
end

section
variable {X : Cx} {E : XQ} {ps : List Nat} {e : Expr} {es : List Expr} {pos : Pos} {as : List AM} {k n : Nat} {f : Addr} {fd : FuncData} {pr : List Str} {qs : List Nat} {F : Env → Res Sl} {x : Str} {p : Pos}
def toSh : Sl → M D
  | .sh d => mPure d
  | .ow xs => mPure (.list xs)
  | .no => fun _ => .bad
def toOw : Sl → M (List D)
  | .ow xs => mPure xs
  | _ => fun _ => .bad
def mCallE (n : Nat) (qs : List Nat) (F : Env → Res Sl) (as : List AM) : M D := mBind (mCall n qs F as) toSh
def mCallW (n : Nat) (qs : List Nat) (F : Env → Res Sl) (as : List AM) : M (List D) := mBind (mCall n qs F as) toOw
theorem bind_assoc {α β γ : Type} (m : M α) (f : α → M β) (g : β → M γ) : mBind (mBind m f) g = mBind m fun a => mBind (f a) g := by
  funext δ
  unfold mBind
  cases m δ <;> rfl
theorem call_sp {W : Wd} {Hs H : Hp} {σ : L2.St} {δ : Env} {vs : List V} {gs : List Ag} {α : Type} {c : Sl → M α} {QQ : α → Hp → Hp → Env → Prop} {Q : VK} (re : RE X.K W Hs H σ δ) (hv : AgR X.K Hs σ vs gs) (po : Post X.K E W Hs σ (mBind (callF n qs F gs) c δ) QQ)
    (k : ∀ s Hs' H' as', Ex Hs Hs' → RE X.K W Hs' H' σ (putBack δ gs as') → Post X.K E W Hs' σ (c s (putBack δ gs as')) QQ → RetR X.K W Hs' H' σ (putBack δ gs as') s Q) : spF X.K n qs F (vs ++ []) H Q E0 := by
  rw [List.append_nil]
  unfold mBind callF at po
  by_cases hc : gs.length = n ∧ ownAt 0 gs = qs ∧ (ownIx gs).Nodup ∧ ((ownIx gs).all fun i => (δ.getD i .no).own) = true
  · rw [if_pos hc] at po
    obtain ⟨h0, h1, h2, h3⟩ := hc
    have h3' : ∀ i ∈ ownIx gs, (δ.getD i .no).own = true := fun i hi => List.all_eq_true.mp h3 i hi
    refine ⟨hv.len.trans h0, wdOf W H σ δ vs gs, Hs, gs.map (agSl δ), ?_, re.enter hv h2 h3', ?_⟩
    · show (pnOf 0 vs gs).map (·.1) = qs
      rw [pnOf_fst hv.len, h1]
    · cases q : F (gs.map (agSl δ)) with
      | ok s as' =>
        rw [q] at po
        intro Hs' H' e r
        have re' := re.leave hv h3' e r
        have z := k s Hs' H' as' e re' (Post.ex po e)
        cases s with
        | sh d => exact z
        | ow xs => exact fun a fa => z a (fa.leave re hv r)
        | no => exact z
      | exc y as' => rw [q] at po; exact po.elim
      | bad => rw [q] at po; exact po.elim
  · rw [if_neg hc] at po
    exact po.elim
theorem callE_read {σ : L2.St} {H : Hp} {Q : VK} (h : tOf X.K E ps (mCallE n qs F as) σ H Q) : tCall (spF X.K n qs F) [] E0 (tOfA X.K E ps (evA as)) σ H Q := by
  obtain ⟨W, Hs, δ, hp, re, po⟩ := h
  unfold mCallE mCall at po
  rw [bind_assoc] at po
  refine tOfA.step hp re po fun vs gs Hs1 H1 δ1 e1 re1 r1 po1 => call_sp re1 r1 po1 fun s Hs' H' as' e re' po2 => ?_
  cases s with
  | sh d => exact Post.of po2 re'
  | ow xs =>
    intro a fa
    obtain ⟨Hs2, k1, k2, k3⟩ := re'.freeze fa
    exact po2 Hs2 H' k1 k2 _ k3
  | no => exact po2.elim
theorem callW_read {σ : L2.St} {H : Hp} {Q : VK} (h : tOfO X.K E ps (mCallW n qs F as) σ H Q) : tCall (spF X.K n qs F) [] E0 (tOfA X.K E ps (evA as)) σ H Q := by
  obtain ⟨W, Hs, δ, hp, re, po⟩ := h
  unfold mCallW mCall at po
  rw [bind_assoc] at po
  refine tOfA.step hp re po fun vs gs Hs1 H1 δ1 e1 re1 r1 po1 => call_sp re1 r1 po1 fun s Hs' H' as' e re' po2 => ?_
  cases s with
  | sh d => exact po2.elim
  | ow xs => exact Post.of po2 re'
  | no => exact po2.elim
theorem je_call (G : FnOk X.prog X.w X.K X.mg X.base CX0 k f fd pr (spF X.K n qs F)) (hr : Room k X.A) (hg : Gl X x) (hm : X.mg x = some (.ref f)) (hk : PySem.W.keepIn X.K (.ref f) = true) (hb : Binds X.K fd pr []) (ha : PA X (e :: es) (tOfA X.K E ps (evA as)))
    (hdb : (x == ("__debug__" : Str)) = false := by decide) (he : starEach (e :: es) X.env = (false, eval e X.env) :: starEach es X.env := by rfl) (hpl : (backTo pos (starEach es X.env)).any (·.1) = false := by rfl) : PE X (.Call (.Name x p) (e :: es) [] pos) (tOf X.K E ps (mCallE n qs F as)) :=
  pe_imp (pe_call G hr hg hm hk hb .nil pass0 ha hdb he hpl) fun _ _ _ h => callE_read h
theorem jo_call (G : FnOk X.prog X.w X.K X.mg X.base CX0 k f fd pr (spF X.K n qs F)) (hr : Room k X.A) (hg : Gl X x) (hm : X.mg x = some (.ref f)) (hk : PySem.W.keepIn X.K (.ref f) = true) (hb : Binds X.K fd pr []) (ha : PA X (e :: es) (tOfA X.K E ps (evA as)))
    (hdb : (x == ("__debug__" : Str)) = false := by decide) (he : starEach (e :: es) X.env = (false, eval e X.env) :: starEach es X.env := by rfl) (hpl : (backTo pos (starEach es X.env)).any (·.1) = false := by rfl) : PE X (.Call (.Name x p) (e :: es) [] pos) (tOfO X.K E ps (mCallW n qs F as)) :=
  pe_imp (pe_call G hr hg hm hk hb .nil pass0 ha hdb he hpl) fun _ _ _ h => callW_read h
theorem je_call0 (G : FnOk X.prog X.w X.K X.mg X.base CX0 k f fd pr (spF X.K n qs F)) (hr : Room k X.A) (hg : Gl X x) (hm : X.mg x = some (.ref f)) (hk : PySem.W.keepIn X.K (.ref f) = true) (hb : Binds X.K fd pr [])
    (hdb : (x == ("__debug__" : Str)) = false := by decide) : PE X (.Call (.Name x p) [] [] pos) (tOf X.K E ps (mCallE n qs F [])) :=
  pe_imp (pe_call0 G hr hg hm hk hb .nil pass0 hdb) fun σ H Q h => by
    have z := callE_read h
    exact (show tOfA X.K E ps (evA []) σ H (fun vs H1 => spF X.K n qs F (vs ++ []) H1 Q E0) from z) |> fun ⟨W, Hs, δ, hp, re, po⟩ => Post.of po re [] trivial
theorem jo_call0 (G : FnOk X.prog X.w X.K X.mg X.base CX0 k f fd pr (spF X.K n qs F)) (hr : Room k X.A) (hg : Gl X x) (hm : X.mg x = some (.ref f)) (hk : PySem.W.keepIn X.K (.ref f) = true) (hb : Binds X.K fd pr [])
    (hdb : (x == ("__debug__" : Str)) = false := by decide) : PE X (.Call (.Name x p) [] [] pos) (tOfO X.K E ps (mCallW n qs F [])) :=
  pe_imp (pe_call0 G hr hg hm hk hb .nil pass0 hdb) fun σ H Q h => by
    have z := callW_read h
    exact (show tOfA X.K E ps (evA []) σ H (fun vs H1 => spF X.K n qs F (vs ++ []) H1 Q E0) from z) |> fun ⟨W, Hs, δ, hp, re, po⟩ => Post.of po re [] trivial
end
end Dn
namespace Dn
open PySem PySem.Spec PyProof.Rows L2

@[irreducible] def Run {α : Type} (m : M α) (δ : Env) (Q : α → Env → Prop) : Prop := match m δ with
  | .ok a δ' => Q a δ'
  | _ => False
@[irreducible] def FRun (F : Env → Res Sl) (as : Env) (Q : Sl → Env → Prop) : Prop := match F as with
  | .ok s as' => Q s as'
  | _ => False
section
variable {α β : Type} {δ δ1 : Env} {m : M D}
theorem Run.i {m : M α} {Q : α → Env → Prop} (h : match m δ with
  | .ok a δ' => Q a δ'
  | _ => False) : Run m δ Q := by unfold Run; exact h
theorem run_pure {a : α} {Q : α → Env → Prop} (h : Q a δ) : Run (mPure a) δ Q := Run.i h
theorem Run.mono {m : M α} {Q Q' : α → Env → Prop} (h : Run m δ Q) (k : ∀ a e, Q a e → Q' a e) : Run m δ Q' := by
  unfold Run at *
  cases q : m δ with
  | ok a e => rw [q] at h; exact k a e h
  | exc x e => rw [q] at h; exact h
  | bad => rw [q] at h; exact h
theorem FRun.mono {F : Env → Res Sl} {as : Env} {Q Q' : Sl → Env → Prop} (h : FRun F as Q) (k : ∀ a e, Q a e → Q' a e) : FRun F as Q' := by
  unfold FRun at *
  cases q : F as with
  | ok a e => rw [q] at h; exact k a e h
  | exc x e => rw [q] at h; exact h
  | bad => rw [q] at h; exact h
theorem FRun.of {F : Env → Res Sl} {as as' : Env} {s : Sl} {Q : Sl → Env → Prop} (h : F as = .ok s as') (k : Q s as') : FRun F as Q := by
  unfold FRun
  rw [h]
  exact k
theorem FRun.to {F : Env → Res Sl} {as : Env} {Q : Sl → Env → Prop} (h : FRun F as Q) : ∃ s as', F as = .ok s as' ∧ Q s as' := by
  unfold FRun at h
  cases q : F as with
  | ok a e => rw [q] at h; exact ⟨a, e, rfl, h⟩
  | exc x e => rw [q] at h; exact h.elim
  | bad => rw [q] at h; exact h.elim
theorem run_bind {m : M α} {f : α → M β} {Q : β → Env → Prop} (h : Run m δ fun a e => Run (f a) e Q) : Run (mBind m f) δ Q := by
  unfold Run at *
  unfold mBind
  cases q : m δ with
  | ok a e => rw [q] at h; exact h
  | exc x e => rw [q] at h; exact h
  | bad => rw [q] at h; exact h
theorem run_opt {o : Option α} {Q : α → Env → Prop} (h : ∃ a, o = some a ∧ Q a δ) : Run (mOpt o) δ Q := by
  obtain ⟨a, h1, h2⟩ := h
  subst h1
  exact Run.i h2
theorem run_var {i : Nat} {d : D} {Q : D → Env → Prop} (h : δ[i]? = some (Sl.sh d)) (k : Q d δ) : Run (mVar i) δ Q := by
  unfold Run mVar
  rw [h]
  exact k
theorem run_c {d : D} {Q : D → Env → Prop} (k : Q d δ) : Run (mC d) δ Q := run_pure k
theorem run_own {i : Nat} {xs : List D} {Q : List D → Env → Prop} (h : δ[i]? = some (Sl.ow xs)) (k : Q xs δ) : Run (mOwn i) δ Q := by
  unfold Run mOwn
  rw [h]
  exact k
theorem run_bin {g : D → D → Option D} {ma mb : M D} {Q : D → Env → Prop} (h : Run ma δ fun d e1 => Run mb e1 fun e e2 => ∃ c, g d e = some c ∧ Q c e2) : Run (mBin g ma mb) δ Q :=
  run_bind (h.mono fun _ _ h => run_bind (h.mono fun _ _ h => run_opt h))
theorem run_test {Q : Bool → Env → Prop} (h : Run m δ fun d e => ∃ b, toB d = some b ∧ Q b e) : Run (mTest m) δ Q := run_bind (h.mono fun _ _ h => run_opt h)
theorem run_chain {g g' : D → D → Option D} {ma mb mc : M D} {Q : D → Env → Prop} (h : Run ma δ fun d e1 => Run mb e1 fun e e2 => ∃ c, g d e = some c ∧ ∃ b, toB c = some b ∧ (b = true → Run mc e2 fun f e3 => ∃ c, g' e f = some c ∧ Q c e3) ∧ (b = false → Q (.bool false) e2)) : Run (mChain g g' ma mb mc) δ Q :=
  run_bind (h.mono fun d _ h => run_bind (h.mono fun e _ ⟨c, h1, b, h2, h3, h4⟩ => run_bind (run_opt ⟨b, by rw [h1]; exact h2, by
    cases b with
    | true => exact run_bind ((h3 rfl).mono fun _ _ h => run_opt h)
    | false => exact run_pure (h4 rfl)⟩)))
theorem run_ag0 {Q : List Ag → Env → Prop} (k : Q [] δ) : Run (evA []) δ Q := Run.i k
theorem run_agE {as : List AM} {Q : List Ag → Env → Prop} (h : Run m δ fun d e => Run (evA as) e fun gs e' => Q (.sh d :: gs) e') : Run (evA (.e m :: as)) δ Q := run_bind (h.mono fun _ _ h => run_bind (h.mono fun _ _ h => run_pure h))
theorem run_agO {as : List AM} {i : Nat} {xs : List D} {Q : List Ag → Env → Prop} (hx : δ[i]? = some (Sl.ow xs)) (h : Run (evA as) δ fun gs e' => Q (.ow i :: gs) e') : Run (evA (.o i :: as)) δ Q := run_bind (run_own hx (run_bind (h.mono fun _ _ h => run_pure h)))
theorem run_callB {g : List D → Option D} {as : List AM} {Q : D → Env → Prop} (h : Run (evA as) δ fun gs e => ∃ ds, shs gs = some ds ∧ ∃ c, g ds = some c ∧ Q c e) : Run (mCallB g as) δ Q :=
  run_bind (h.mono fun gs _ ⟨ds, h1, c, h2, h3⟩ => run_opt ⟨c, by rw [h1]; exact h2, h3⟩)
theorem run_callO {g : List D → Option D} {i : Nat} {xs : List D} {Q : D → Env → Prop} (hx : δ[i]? = some (Sl.ow xs)) (h : ∃ c, g [.list xs] = some c ∧ flatD c = true ∧ Q c δ) : Run (mCallO g i) δ Q := by
  obtain ⟨c, h1, h2, h3⟩ := h
  exact run_bind (run_own hx (run_opt ⟨c, by rw [h1]; simp [Option.filter, h2], h3⟩))
theorem run_isi {T : String} {Q : D → Env → Prop} (h : Run m δ fun d e => ∃ b, kitB (tyD d) T = some b ∧ Q (.bool b) e) : Run (mIsi T m) δ Q :=
  run_bind (h.mono fun d _ ⟨b, h1, h2⟩ => run_opt ⟨_, by rw [h1]; rfl, h2⟩)
theorem run_m1 {g : Str → List D → Option D} {mo : M D} {Q : D → Env → Prop} (h : Run mo δ fun d e1 => ∃ z, toS d = some z ∧ Run m e1 fun e e2 => ∃ c, g z [e] = some c ∧ Q c e2) : Run (mM1 g mo m) δ Q :=
  run_bind (h.mono fun _ _ ⟨z, h1, h2⟩ => run_bind (run_opt ⟨z, h1, run_bind (h2.mono fun _ _ h => run_opt h)⟩))
theorem run_m0 {g : Str → List D → Option D} {mo : M D} {Q : D → Env → Prop} (h : Run mo δ fun d e1 => ∃ z, toS d = some z ∧ ∃ c, g z [] = some c ∧ Q c e1) : Run (mM0 g mo) δ Q :=
  run_bind (h.mono fun _ _ ⟨z, h1, h2⟩ => run_bind (run_opt ⟨z, h1, run_opt h2⟩))
theorem run_m1O {g : Str → List D → Option D} {mo : M D} {i : Nat} {Q : D → Env → Prop} (h : Run mo δ fun d e1 => ∃ z, toS d = some z ∧ ∃ xs, e1[i]? = some (Sl.ow xs) ∧ ∃ c, g z [.list xs] = some c ∧ flatD c = true ∧ Q c e1) : Run (mM1O g mo i) δ Q :=
  run_bind (h.mono fun _ _ ⟨z, h1, xs, h2, c, h3, h4, h5⟩ => run_bind (run_opt ⟨z, h1, run_bind (run_own h2 (run_opt ⟨c, by rw [h3]; simp [Option.filter, h4], h5⟩))⟩))
theorem run_ixO {i : Nat} {xs : List D} {Q : D → Env → Prop} (hx : δ[i]? = some (Sl.ow xs)) (h : Run m δ fun e e2 => ∃ ys, e2[i]? = some (Sl.ow ys) ∧ ∃ c, dIx (.list ys) e = some c ∧ Q c e2) : Run (mIxO i m) δ Q :=
  run_bind (run_own hx (run_bind (h.mono fun _ _ ⟨ys, h1, h2⟩ => run_bind (run_own h1 (run_opt h2)))))
theorem run_frz {i : Nat} {xs : List D} {Q : D → Env → Prop} (hx : δ[i]? = some (Sl.ow xs)) (h : Q (.list xs) (δ.set i (.sh (.list xs)))) : Run (mFrz i) δ Q := run_bind (run_own hx (Run.i h))
theorem run_shs {as : List AM} {Q : List D → Env → Prop} (h : Run (evA as) δ fun gs e => ∃ ds, shs gs = some ds ∧ ds.length ≤ sizeLine ∧ Q ds e) : Run (mShs as) δ Q :=
  run_bind (h.mono fun gs _ ⟨ds, h1, h2, h3⟩ => run_opt ⟨ds, by rw [h1]; simp [Option.filter, h2], h3⟩)
theorem run_tup {as : List AM} {Q : D → Env → Prop} (h : Run (evA as) δ fun gs e => ∃ ds, shs gs = some ds ∧ ds.length ≤ sizeLine ∧ Q (.tuple ds) e) : Run (mTup as) δ Q := run_bind (run_shs (h.mono fun _ _ ⟨ds, h1, h2, h3⟩ => ⟨ds, h1, h2, Run.i h3⟩))
theorem run_lst {as : List AM} {Q : D → Env → Prop} (h : Run (evA as) δ fun gs e => ∃ ds, shs gs = some ds ∧ ds.length ≤ sizeLine ∧ Q (.list ds) e) : Run (mLst as) δ Q := run_bind (run_shs (h.mono fun _ _ ⟨ds, h1, h2, h3⟩ => ⟨ds, h1, h2, Run.i h3⟩))
theorem run_ifb {b : Bool} {m1 m2 : M α} {Q : α → Env → Prop} (h1 : b = true → Run m1 δ Q) (h2 : b = false → Run m2 δ Q) : Run (if b = true then m1 else m2) δ Q := by
  cases b with
  | true => exact h1 rfl
  | false => exact h2 rfl
theorem run_andT {t1 t2 : M Bool} {Q : Bool → Env → Prop} (h : Run t1 δ fun b e => (b = true → Run t2 e Q) ∧ (b = false → Q false e)) : Run (mAndT t1 t2) δ Q := run_bind (h.mono fun b e h => run_ifb h.1 fun z => Run.i (h.2 z))
theorem run_orT {t1 t2 : M Bool} {Q : Bool → Env → Prop} (h : Run t1 δ fun b e => (b = true → Q true e) ∧ (b = false → Run t2 e Q)) : Run (mOrT t1 t2) δ Q := run_bind (h.mono fun b e h => run_ifb (fun z => Run.i (h.1 z)) h.2)
theorem run_notT {t : M Bool} {Q : Bool → Env → Prop} (h : Run t δ fun b e => Q (!b) e) : Run (mNotT t) δ Q := run_bind (h.mono fun _ _ h => Run.i h)
theorem run_andV {m1 m2 : M D} {Q : D → Env → Prop} (h : Run m1 δ fun d e => ∃ b, toB d = some b ∧ (b = true → Run m2 e Q) ∧ (b = false → Q (.bool false) e)) : Run (mAndV m1 m2) δ Q := run_bind (run_test (h.mono fun _ _ ⟨b, h1, h2, h3⟩ => ⟨b, h1, run_ifb h2 fun z => Run.i (h3 z)⟩))
theorem run_orV {m1 m2 : M D} {Q : D → Env → Prop} (h : Run m1 δ fun d e => ∃ b, toB d = some b ∧ (b = true → Q (.bool true) e) ∧ (b = false → Run m2 e Q)) : Run (mOrV m1 m2) δ Q := run_bind (run_test (h.mono fun _ _ ⟨b, h1, h2, h3⟩ => ⟨b, h1, run_ifb (fun z => Run.i (h2 z)) h3⟩))
theorem run_notV {Q : D → Env → Prop} (h : Run m δ fun d e => ∃ b, toB d = some b ∧ Q (.bool (!b)) e) : Run (mNotV m) δ Q := run_bind (run_test (h.mono fun _ _ ⟨b, h1, h2⟩ => ⟨b, h1, Run.i h2⟩))
theorem run_ifE {t : M Bool} {m1 m2 : M D} {Q : D → Env → Prop} (h : Run t δ fun b e => (b = true → Run m1 e Q) ∧ (b = false → Run m2 e Q)) : Run (mIfE t m1 m2) δ Q := run_bind (h.mono fun b e h => run_ifb h.1 h.2)
theorem run_neg {Q : D → Env → Prop} (h : Run m δ fun d e => ∃ c, dNeg d = some c ∧ Q c e) : Run (mNeg m) δ Q := run_bind (h.mono fun _ _ h => run_opt h)
theorem run_sl {ml mh : M (Option Int)} {Q : D → Env → Prop} (h : Run m δ fun d e => Run ml e fun l e1 => Run mh e1 fun u e2 => ∃ c, dSl d l u = some c ∧ Q c e2) : Run (mSl m ml mh) δ Q := run_bind (h.mono fun _ _ h => run_bind (h.mono fun _ _ h => run_bind (h.mono fun _ _ h => run_opt h)))
theorem run_part {Q : Option Int → Env → Prop} (h : Run m δ fun d e => ∃ c, toI d = some c ∧ Q c e) : Run (mPart m) δ Q := run_bind (h.mono fun _ _ h => run_opt h)
theorem run_noPart {Q : Option Int → Env → Prop} (h : Q none δ) : Run mNoPart δ Q := Run.i h
-- statements
theorem run_nx {Q : Fl → Env → Prop} (h : Q .nx δ) : Run mNx δ Q := Run.i h
theorem run_seq {m1 m2 : M Fl} {Q : Fl → Env → Prop} (h : Run m1 δ fun fl e => (fl = .nx → Run m2 e Q) ∧ (fl ≠ .nx → Q fl e)) : Run (mSeq m1 m2) δ Q := by
  unfold Run at *
  unfold mSeq
  cases q : m1 δ with
  | ok fl e =>
    rw [q] at h
    cases fl with
    | nx => exact h.1 rfl
    | rt s => exact h.2 (by simp)
    | bk => exact h.2 (by simp)
    | ct => exact h.2 (by simp)
  | exc x e => rw [q] at h; exact h
  | bad => rw [q] at h; exact h
theorem run_expr {Q : Fl → Env → Prop} (h : Run m δ fun _ e => Q .nx e) : Run (mExpr m) δ Q := run_bind (h.mono fun _ _ h => Run.i h)
theorem run_ret {Q : Fl → Env → Prop} (h : Run m δ fun d e => Q (.rt (.sh d)) e) : Run (mRet m) δ Q := run_bind (h.mono fun _ _ h => Run.i h)
theorem run_retO {m : M (List D)} {Q : Fl → Env → Prop} (h : Run m δ fun d e => Q (.rt (.ow d)) e) : Run (mRetO m) δ Q := run_bind (h.mono fun _ _ h => Run.i h)
theorem run_ifS {t : M Bool} {m1 m2 : M Fl} {Q : Fl → Env → Prop} (h : Run t δ fun b e => (b = true → Run m1 e Q) ∧ (b = false → Run m2 e Q)) : Run (mIfS t m1 m2) δ Q := run_bind (h.mono fun b e h => run_ifb h.1 h.2)
theorem run_set {i : Nat} {Q : Fl → Env → Prop} (h : Run m δ fun d e => Q .nx (e.set i (.sh d))) : Run (mSet i m) δ Q := run_bind (h.mono fun _ _ h => Run.i h)
theorem run_setO {i : Nat} {m : M (List D)} {Q : Fl → Env → Prop} (h : Run m δ fun d e => Q .nx (e.set i (.ow d))) : Run (mSetO i m) δ Q := run_bind (h.mono fun _ _ h => Run.i h)
theorem run_setIx {k : Nat} {mi me : M D} {Q : Fl → Env → Prop} (h : Run me δ fun d e1 => ∃ xs, e1[k]? = some (Sl.ow xs) ∧ Run mi e1 fun e e2 => ∃ n, toI e = some (some n) ∧ ∃ ys, e2[k]? = some (Sl.ow ys) ∧ ∃ j, ixN ys.length n = some j ∧ Q .nx (e2.set k (.ow (ys.set j d)))) : Run (mSetIx k mi me) δ Q :=
  run_bind (h.mono fun _ _ ⟨xs, h1, h2⟩ => run_bind (run_own h1 (run_bind (h2.mono fun _ _ ⟨n, h3, ys, h4, j, h5, h6⟩ => run_bind (run_own h4 (run_bind (run_opt ⟨some n, h3, run_bind (run_opt ⟨j, h5, Run.i h6⟩)⟩)))))))
theorem run_app {k : Nat} {me : M D} {xs : List D} {Q : Fl → Env → Prop} (hx : δ[k]? = some (Sl.ow xs)) (h : Run me δ fun d e1 => ∃ ys, e1[k]? = some (Sl.ow ys) ∧ ys.length < sizeLine ∧ Q .nx (e1.set k (.ow (ys ++ [d])))) : Run (mApp k me) δ Q :=
  run_bind (run_own hx (run_bind (h.mono fun _ _ ⟨ys, h1, h2, h3⟩ => run_bind (run_own h1 (run_bind (run_opt ⟨(), if_pos h2, Run.i h3⟩))))))
theorem run_asg {g : D → M Unit} {Q : Fl → Env → Prop} (h : Run m δ fun d e => ∃ e', g d e = .ok () e' ∧ Q .nx e') : Run (mAsg g m) δ Q :=
  run_bind (h.mono fun _ _ ⟨e', h1, h2⟩ => by unfold Run; simp only [h1]; exact h2)
theorem run_iter {Q : List D → Env → Prop} (h : Run m δ fun d e => ∃ ds, dItems d = some ds ∧ Q ds e) : Run (mIter m) δ Q := run_bind (h.mono fun _ _ h => run_opt h)
theorem run_rng1 {Q : List D → Env → Prop} (h : Run m δ fun d e => ∃ ds, bRng1 d = some ds ∧ Q ds e) : Run (mRng1 m) δ Q := run_bind (h.mono fun _ _ h => run_opt h)
theorem run_rng2 {ma mb : M D} {Q : List D → Env → Prop} (h : Run ma δ fun d e1 => Run mb e1 fun e e2 => ∃ ds, bRng2 d e = some ds ∧ Q ds e2) : Run (mRng2 ma mb) δ Q := run_bind (h.mono fun _ _ h => run_bind (h.mono fun _ _ h => run_opt h))
theorem run_for {mi : M (List D)} {g : D → M Unit} {mb : M Fl} {Q : Fl → Env → Prop} (h : Run mi δ fun ds e => Run (forL g mb ds) e Q) : Run (mFor mi g mb) δ Q := run_bind h
theorem run_fr {m : M (List D)} {Q : D → Env → Prop} (h : Run m δ fun xs e => Q (.list xs) e) : Run (mFr m) δ Q := run_bind (h.mono fun _ _ h => Run.i h)
/-- a loop by what holds ahead of each turn -/
theorem run_forL {g : D → M Unit} {mb : M Fl} {Q : Fl → Env → Prop} (ds : List D) (I : Nat → Env → Prop) (h0 : I 0 δ)
    (hs : ∀ (i : Nat) (d : D) (e : Env), ds[i]? = some d → I i e → ∃ e1, g d e = .ok () e1 ∧ Run mb e1 fun fl e2 => (fl = .nx ∨ fl = .ct → I (i + 1) e2) ∧ (fl = .bk → Q .nx e2) ∧ (∀ s, fl = .rt s → Q (.rt s) e2))
    (hd : ∀ e, I ds.length e → Q .nx e) : Run (forL g mb ds) δ Q := by
  suffices H : ∀ (k i : Nat) (e : Env), i + k = ds.length → I i e → Run (forL g mb (ds.drop i)) e Q by
    have := H ds.length 0 δ (by omega) h0
    rwa [List.drop_zero] at this
  intro k
  induction k with
  | zero =>
    intro i e hi hI
    have e' : i = ds.length := by omega
    subst e'
    rw [List.drop_length]
    exact Run.i (hd e hI)
  | succ k ih =>
    intro i e hi hI
    have hlt : i < ds.length := by omega
    obtain ⟨e1, h1, h2⟩ := hs i ds[i] e (List.getElem?_eq_getElem hlt) hI
    rw [List.drop_eq_getElem_cons hlt]
    unfold Run forL
    rw [h1]
    unfold Run at h2
    dsimp only
    cases q : mb e1 with
    | ok fl e2 =>
      rw [q] at h2
      obtain ⟨a1, a2, a3⟩ := h2
      cases fl with
      | nx => have z := ih (i + 1) e2 (by omega) (a1 (.inl rfl)); unfold Run at z; exact z
      | ct => have z := ih (i + 1) e2 (by omega) (a1 (.inr rfl)); unfold Run at z; exact z
      | bk => exact a2 rfl
      | rt s => exact a3 s rfl
    | exc x e2 => rw [q] at h2; exact h2
    | bad => rw [q] at h2; exact h2
/-- a comprehension by what holds ahead of each turn: J i ys e, with the items made so far -/
theorem run_comp {mi : M (List D)} {vs : List Nat} {g : D → M Unit} {mt : M Bool} {me : M D} {Q : List D → Env → Prop}
    (h : Run mi δ fun ds e => (vs.all fun i => !(e.getD i .no).own) = true ∧ ds.length ≤ sizeLine ∧ Run (compL vs g mt me ds) (wipeE e vs) fun ys e2 => Q ys (backE e e2 vs)) : Run (mComp mi vs g mt me) δ Q :=
  run_bind (h.mono fun ds e ⟨h1, h2, h3⟩ => by
    unfold Run compE
    rw [if_pos ⟨h1, h2⟩]
    unfold Run at h3
    cases q : compL vs g mt me ds (wipeE e vs) with
    | ok ys e2 => rw [q] at h3; exact h3
    | exc x e2 => rw [q] at h3; exact h3
    | bad => rw [q] at h3; exact h3)
theorem run_compL {vs : List Nat} {g : D → M Unit} {mt : M Bool} {me : M D} (ds : List D) (J : Nat → List D → Env → Prop) {Q : List D → Env → Prop} (h0 : J 0 [] δ)
    (hs : ∀ (i : Nat) (d : D) (ys : List D) (e : Env), ds[i]? = some d → J i ys e → ∃ e1, g d e = .ok () e1 ∧ Run mt e1 fun b e2 => (b = true → Run me e2 fun y e3 => J (i + 1) (ys ++ [y]) (wipeE e3 vs)) ∧ (b = false → J (i + 1) ys (wipeE e2 vs)))
    (hd : ∀ ys e, J ds.length ys e → Q ys e) : Run (compL vs g mt me ds) δ Q := by
  suffices H : ∀ (k i : Nat) (ys : List D) (e : Env), i + k = ds.length → J i ys e → Run (compL vs g mt me (ds.drop i)) e fun zs e2 => Q (ys ++ zs) e2 by
    have := H ds.length 0 [] δ (by omega) h0
    rw [List.drop_zero] at this
    exact this.mono fun _ _ h => h
  intro k
  induction k with
  | zero =>
    intro i ys e hi hJ
    have e' : i = ds.length := by omega
    subst e'
    rw [List.drop_length]
    refine Run.i ?_
    show Q (ys ++ []) e
    rw [List.append_nil]
    exact hd ys e hJ
  | succ k ih =>
    intro i ys e hi hJ
    have hlt : i < ds.length := by omega
    obtain ⟨e1, h1, h2⟩ := hs i ds[i] ys e (List.getElem?_eq_getElem hlt) hJ
    rw [List.drop_eq_getElem_cons hlt]
    have z : Run (mBind mt (fun b => if b then mBind me (fun y => mBind (mWipe vs) fun _ => mBind (compL vs g mt me (ds.drop (i + 1))) fun ys => mPure (y :: ys)) else mBind (mWipe vs) fun _ => compL vs g mt me (ds.drop (i + 1)))) e1 fun zs e2 => Q (ys ++ zs) e2 := by
      refine run_bind (h2.mono fun b e2 h => run_ifb (fun hb => ?_) fun hb => ?_)
      · refine run_bind ((h.1 hb).mono fun y e3 hJ' => run_bind (Run.i ?_))
        show Run (mBind (compL vs g mt me (ds.drop (i + 1))) fun ys => mPure (y :: ys)) (wipeE e3 vs) _
        refine run_bind ((ih (i + 1) _ _ (by omega) hJ').mono fun zs e4 q => Run.i ?_)
        show Q (ys ++ (y :: zs)) e4
        rw [List.append_assoc] at q
        exact q
      · refine run_bind (Run.i ?_)
        show Run (compL vs g mt me (ds.drop (i + 1))) (wipeE e2 vs) _
        exact ih (i + 1) _ _ (by omega) (h.2 hb)
    unfold Run at z ⊢
    unfold compL
    rw [h1]
    exact z
def shOf : Sl → Option D
  | .sh d => some d
  | .ow xs => some (.list xs)
  | .no => none
theorem run_callF {n : Nat} {qs : List Nat} {F : Env → Res Sl} {gs : List Ag} {Q : Sl → Env → Prop} (h0 : gs.length = n) (h1 : ownAt 0 gs = qs) (h2 : (ownIx gs).Nodup) (h3 : ((ownIx gs).all fun i => (δ.getD i .no).own) = true)
    (h : FRun F (gs.map (agSl δ)) fun s as' => Q s (putBack δ gs as')) : Run (callF n qs F gs) δ Q := by
  unfold Run callF
  rw [if_pos ⟨h0, h1, h2, h3⟩]
  unfold FRun at h
  cases q : F (gs.map (agSl δ)) with
  | ok s as' => rw [q] at h; exact h
  | exc x e => rw [q] at h; exact h
  | bad => rw [q] at h; exact h
def CallOk (n : Nat) (qs : List Nat) (gs : List Ag) (e : Env) : Prop := gs.length = n ∧ ownAt 0 gs = qs ∧ (ownIx gs).Nodup ∧ ((ownIx gs).all fun i => (e.getD i .no).own) = true
theorem run_callE {n : Nat} {qs : List Nat} {F : Env → Res Sl} {as : List AM} {Q : D → Env → Prop} (h : Run (evA as) δ fun gs e => CallOk n qs gs e ∧ FRun F (gs.map (agSl e)) fun s as' => ∃ d, shOf s = some d ∧ Q d (putBack e gs as')) : Run (mCallE n qs F as) δ Q :=
  run_bind (run_bind (h.mono fun gs e ⟨⟨a1, a2, a3, a4⟩, h⟩ => run_callF a1 a2 a3 a4 (h.mono fun s as' ⟨d, b1, b2⟩ => by
    cases s with
    | sh d' => cases b1; exact Run.i b2
    | ow xs => cases b1; exact Run.i b2
    | no => cases b1)))
theorem run_callW {n : Nat} {qs : List Nat} {F : Env → Res Sl} {as : List AM} {Q : List D → Env → Prop} (h : Run (evA as) δ fun gs e => CallOk n qs gs e ∧ FRun F (gs.map (agSl e)) fun s as' => ∃ d, s = .ow d ∧ Q d (putBack e gs as')) : Run (mCallW n qs F as) δ Q :=
  run_bind (run_bind (h.mono fun gs e ⟨⟨a1, a2, a3, a4⟩, h⟩ => run_callF a1 a2 a3 a4 (h.mono fun s as' ⟨d, b1, b2⟩ => by subst b1; exact Run.i b2)))
/-- a def, by its body -/
theorem frun_fn {n N : Nat} {ps : List Nat} {mb : M Fl} {as : Env} {Q : Sl → Env → Prop} (h : Run mb (as ++ List.replicate (N - n) .no) fun fl e => (fl = .nx → Q (.sh .none) (outs ps n e)) ∧ (∀ s, fl = .rt s → Q s (outs ps n e)) ∧ fl ≠ .bk ∧ fl ≠ .ct) : FRun (fnF n N ps mb) as Q := by
  unfold FRun fnF
  unfold Run at h
  cases q : mb (as ++ List.replicate (N - n) .no) with
  | ok fl e =>
    rw [q] at h
    obtain ⟨h1, h2, h3, h4⟩ := h
    cases fl with
    | nx => exact h1 rfl
    | rt s => exact h2 s rfl
    | bk => exact (h3 rfl).elim
    | ct => exact (h4 rfl).elim
  | exc x e => rw [q] at h; exact h
  | bad => rw [q] at h; exact h
end
end Dn
namespace Dn
open PySem PySem.Spec PyProof.Rows L2 TL

@[reducible] def isStr : D → Bool
  | .str _ => true
  | _ => false
section
variable {Q : D → Prop} {i j : Int} {x y : Str} {xs ys : List D} {d e : D}
theorem bx_add_int (h : Q (.int (i + j))) : ∃ c, dAdd (.int i) (.int j) = some c ∧ Q c := ⟨_, rfl, h⟩
theorem bx_add_str (hl : x.length + y.length ≤ sizeLine) (h : Q (.str (x ++ y))) : ∃ c, dAdd (.str x) (.str y) = some c ∧ Q c := ⟨_, if_pos hl, h⟩
theorem bx_add_tup (hl : xs.length + ys.length ≤ sizeLine) (h : Q (.tuple (xs ++ ys))) : ∃ c, dAdd (.tuple xs) (.tuple ys) = some c ∧ Q c := ⟨_, if_pos hl, h⟩
theorem bx_add_lst (hl : xs.length + ys.length ≤ sizeLine) (h : Q (.list (xs ++ ys))) : ∃ c, dAdd (.list xs) (.list ys) = some c ∧ Q c := ⟨_, if_pos hl, h⟩
theorem bx_sub (h : Q (.int (i - j))) : ∃ c, dSub (.int i) (.int j) = some c ∧ Q c := ⟨_, rfl, h⟩
theorem bx_mul (hc : (-(2 ^ 64) < i ∧ i < 2 ^ 64) ∨ (-(2 ^ 64) < j ∧ j < 2 ^ 64)) (h : Q (.int (i * j))) : ∃ c, dMul (.int i) (.int j) = some c ∧ Q c := ⟨_, if_pos hc, h⟩
theorem bx_rep (hc : -1000000 ≤ j ∧ j ≤ 1000000 ∧ x.length ≤ 16) (h : Q (.str (strRep x j))) : ∃ c, dMul (.str x) (.int j) = some c ∧ Q c := ⟨_, if_pos hc, h⟩
theorem bx_mod (hc : 0 < j) (h : Q (.int (i % j))) : ∃ c, dMod (.int i) (.int j) = some c ∧ Q c := ⟨_, if_pos (decide_eq_true hc), h⟩
theorem bx_div (hc : 0 < j ∧ j < 1073741824) (h : Q (.int (i / j))) : ∃ c, dDiv (.int i) (.int j) = some c ∧ Q c := ⟨_, if_pos (decide_eq_true hc), h⟩
theorem bx_pow (hc : 0 ≤ j ∧ j ≤ 1000000 ∧ i.natAbs < 2 ^ 64) (h : Q (.int (i ^ j.toNat))) : ∃ c, dPow (.int i) (.int j) = some c ∧ Q c := ⟨_, if_pos (decide_eq_true hc), h⟩
theorem bx_eq_str (h : Q (.bool (decide (x = y)))) : ∃ c, dEq (.str x) (.str y) = some c ∧ Q c := ⟨_, rfl, h⟩
theorem bx_ne_str (h : Q (.bool (!decide (x = y)))) : ∃ c, dNe (.str x) (.str y) = some c ∧ Q c := ⟨_, rfl, h⟩
theorem dEqB_of (hn : isStr d = false ∨ isStr e = false) (h1 : SeqAt.shaped d = true) (h2 : SeqAt.shaped e = true) : dEqB d e = some (PyData.eqv d e) := by
  have z : (if SeqAt.shaped d = true ∧ SeqAt.shaped e = true then some (PyData.eqv d e) else none) = some (PyData.eqv d e) := if_pos ⟨h1, h2⟩
  cases d <;> first | exact z | (cases e <;> first | exact z | (rcases hn with hn | hn <;> cases hn))
theorem bx_eq (hn : isStr d = false ∨ isStr e = false) (h1 : SeqAt.shaped d = true) (h2 : SeqAt.shaped e = true) (h : Q (.bool (PyData.eqv d e))) : ∃ c, dEq d e = some c ∧ Q c := ⟨_, by unfold dEq; rw [dEqB_of hn h1 h2]; rfl, h⟩
theorem bx_ne (hn : isStr d = false ∨ isStr e = false) (h1 : SeqAt.shaped d = true) (h2 : SeqAt.shaped e = true) (h : Q (.bool (!PyData.eqv d e))) : ∃ c, dNe d e = some c ∧ Q c := ⟨_, by unfold dNe; rw [dEqB_of hn h1 h2]; rfl, h⟩
theorem eqv_int : PyData.eqv (.int i) (.int j) = decide (i = j) := by by_cases h : i = j <;> simp [PyData.eqv, h]
theorem eqv_bl {a b : Bool} : PyData.eqv (.bool a) (.bool b) = decide (a = b) := by cases a <;> cases b <;> rfl
theorem bx_eq_int (h : Q (.bool (decide (i = j)))) : ∃ c, dEq (.int i) (.int j) = some c ∧ Q c := bx_eq (.inl rfl) rfl rfl (by rw [eqv_int]; exact h)
theorem bx_eq_bl {a b : Bool} (h : Q (.bool (decide (a = b)))) : ∃ c, dEq (.bool a) (.bool b) = some c ∧ Q c := bx_eq (.inl rfl) rfl rfl (by rw [eqv_bl]; exact h)
theorem bx_ne_int (h : Q (.bool (!decide (i = j)))) : ∃ c, dNe (.int i) (.int j) = some c ∧ Q c := bx_ne (.inl rfl) rfl rfl (by rw [eqv_int]; exact h)
theorem bx_ne_bl {a b : Bool} (h : Q (.bool (!decide (a = b)))) : ∃ c, dNe (.bool a) (.bool b) = some c ∧ Q c := bx_ne (.inl rfl) rfl rfl (by rw [eqv_bl]; exact h)
theorem bx_lt (h : Q (.bool (decide (i < j)))) : ∃ c, dLt (.int i) (.int j) = some c ∧ Q c := ⟨_, rfl, h⟩
theorem bx_le (h : Q (.bool (decide (i ≤ j)))) : ∃ c, dLe (.int i) (.int j) = some c ∧ Q c := ⟨_, rfl, h⟩
theorem bx_gt (h : Q (.bool (decide (j < i)))) : ∃ c, dGt (.int i) (.int j) = some c ∧ Q c := ⟨_, rfl, h⟩
theorem bx_ge (h : Q (.bool (decide (j ≤ i)))) : ∃ c, dGe (.int i) (.int j) = some c ∧ Q c := ⟨_, rfl, h⟩
theorem bx_in_str (h : Q (.bool (strIn x y))) : ∃ c, dIn (.str x) (.str y) = some c ∧ Q c := ⟨_, rfl, h⟩
theorem bx_nin_str (h : Q (.bool (!strIn x y))) : ∃ c, dNotIn (.str x) (.str y) = some c ∧ Q c := ⟨_, rfl, h⟩
theorem dInB_tup (h1 : flatD d = true) (h2 : xs.all flatD = true) : dInB d (.tuple xs) = some (inD d xs) := by
  cases d <;> first | exact if_pos ⟨h1, h2⟩ | simp [flatD] at h1
theorem dInB_lst (h1 : flatD d = true) (h2 : xs.all flatD = true) : dInB d (.list xs) = some (inD d xs) := by
  cases d <;> first | exact if_pos ⟨h1, h2⟩ | simp [flatD] at h1
theorem bx_in_tup (h1 : flatD d = true) (h2 : xs.all flatD = true) (h : Q (.bool (inD d xs))) : ∃ c, dIn d (.tuple xs) = some c ∧ Q c := ⟨_, by unfold dIn; rw [dInB_tup h1 h2]; rfl, h⟩
theorem bx_nin_tup (h1 : flatD d = true) (h2 : xs.all flatD = true) (h : Q (.bool (!inD d xs))) : ∃ c, dNotIn d (.tuple xs) = some c ∧ Q c := ⟨_, by unfold dNotIn; rw [dInB_tup h1 h2]; rfl, h⟩
theorem bx_in_lst (h1 : flatD d = true) (h2 : xs.all flatD = true) (h : Q (.bool (inD d xs))) : ∃ c, dIn d (.list xs) = some c ∧ Q c := ⟨_, by unfold dIn; rw [dInB_lst h1 h2]; rfl, h⟩
theorem bx_nin_lst (h1 : flatD d = true) (h2 : xs.all flatD = true) (h : Q (.bool (!inD d xs))) : ∃ c, dNotIn d (.list xs) = some c ∧ Q c := ⟨_, by unfold dNotIn; rw [dInB_lst h1 h2]; rfl, h⟩
theorem bx_is_bl {a b : Bool} (h : Q (.bool (decide (a = b)))) : ∃ c, dIs (.bool a) (.bool b) = some c ∧ Q c := ⟨_, rfl, h⟩
theorem bx_isNot_bl {a b : Bool} (h : Q (.bool (!decide (a = b)))) : ∃ c, dIsNot (.bool a) (.bool b) = some c ∧ Q c := ⟨_, rfl, h⟩
theorem bx_is_non (h : Q (.bool (isN d))) : ∃ c, dIs d .none = some c ∧ Q c := ⟨.bool (isN d), by unfold dIs; cases d <;> rfl, h⟩
theorem bx_isNot_non (h : Q (.bool (!isN d))) : ∃ c, dIsNot d .none = some c ∧ Q c := ⟨.bool (!isN d), by unfold dIsNot; cases d <;> rfl, h⟩
theorem bx_ix_lst (h1 : atI xs i = some d) (h : Q d) : ∃ c, dIx (.list xs) (.int i) = some c ∧ Q c := ⟨d, h1, h⟩
theorem bx_ix_tup (h1 : atI xs i = some d) (h : Q d) : ∃ c, dIx (.tuple xs) (.int i) = some c ∧ Q c := ⟨d, h1, h⟩
theorem bx_ix_str {c : Nat} (hl : x.length ≤ sizeLine) (h1 : atI x.cps.toList i = some c) (h : Q (.str ⟨#[c]⟩)) : ∃ c, dIx (.str x) (.int i) = some c ∧ Q c := ⟨.str ⟨#[c]⟩, by show (if x.length ≤ sizeLine then (atI x.cps.toList i).map (fun c => PyData.str ⟨#[c]⟩) else none) = _; rw [if_pos hl, h1]; rfl, h⟩
theorem bx_sl_str {lo hi : Option Int} (hl : x.length ≤ sizeLine) (h : Q (.str (cutS x lo hi))) : ∃ c, dSl (.str x) lo hi = some c ∧ Q c := ⟨_, if_pos hl, h⟩
theorem bx_sl_tup {lo hi : Option Int} (h : Q (.tuple (cutD xs lo hi))) : ∃ c, dSl (.tuple xs) lo hi = some c ∧ Q c := ⟨_, rfl, h⟩
theorem bx_sl_lst {lo hi : Option Int} (h : Q (.list (cutD xs lo hi))) : ∃ c, dSl (.list xs) lo hi = some c ∧ Q c := ⟨_, rfl, h⟩
theorem bx_neg (h : Q (.int (-i))) : ∃ c, dNeg (.int i) = some c ∧ Q c := ⟨_, rfl, h⟩
theorem bx_len_str (hl : x.length ≤ sizeLine) (h : Q (.int x.length)) : ∃ c, bLen [.str x] = some c ∧ Q c := ⟨_, if_pos hl, h⟩
theorem bx_len_lst (h : Q (.int xs.length)) : ∃ c, bLen [.list xs] = some c ∧ Q c := ⟨_, rfl, h⟩
theorem bx_len_tup (h : Q (.int xs.length)) : ∃ c, bLen [.tuple xs] = some c ∧ Q c := ⟨_, rfl, h⟩
theorem bx_int_int (h : Q (.int i)) : ∃ c, bInt [.int i] = some c ∧ Q c := ⟨_, rfl, h⟩
theorem bx_int_bl {b : Bool} (h : Q (.int (if b then 1 else 0))) : ∃ c, bInt [.bool b] = some c ∧ Q c := ⟨_, rfl, h⟩
theorem bx_II {f : Int → Int → Int} (h : Q (.int (f i j))) : ∃ c, bII f [.int i, .int j] = some c ∧ Q c := ⟨_, rfl, h⟩
theorem bx_tuple_lst (h : Q (.tuple xs)) : ∃ c, bTuple [.list xs] = some c ∧ Q c := ⟨_, rfl, h⟩
theorem bx_tuple_tup (h : Q (.tuple xs)) : ∃ c, bTuple [.tuple xs] = some c ∧ Q c := ⟨_, rfl, h⟩
theorem bx_list_lst (h : Q (.list xs)) : ∃ c, bList [.list xs] = some c ∧ Q c := ⟨_, rfl, h⟩
theorem bx_list_tup (h : Q (.list xs)) : ∃ c, bList [.tuple xs] = some c ∧ Q c := ⟨_, rfl, h⟩
theorem toBs_map : ∀ bs : List Bool, toBs (bs.map PyData.bool) = some bs
  | [] => rfl
  | b :: r => by rw [List.map_cons]; unfold toBs; rw [toBs_map r]; rfl
theorem toIs_map : ∀ bs : List Int, toIs (bs.map PyData.int) = some bs
  | [] => rfl
  | b :: r => by rw [List.map_cons]; unfold toIs; rw [toIs_map r]; rfl
theorem toSs_map : ∀ bs : List Str, toSs (bs.map PyData.str) = some bs
  | [] => rfl
  | b :: r => by rw [List.map_cons]; unfold toSs; rw [toSs_map r]; rfl
theorem bx_bools {f : List Bool → Bool} {bs : List Bool} (h : Q (.bool (f bs))) : ∃ c, bBools f [.list (bs.map PyData.bool)] = some c ∧ Q c := ⟨.bool (f bs), by show (toBs (bs.map PyData.bool)).map _ = _; rw [toBs_map]; rfl, h⟩
theorem bx_sum {ns : List Int} (h : Q (.int ns.sum)) : ∃ c, bSum [.list (ns.map PyData.int)] = some c ∧ Q c := ⟨.int ns.sum, by show (toIs (ns.map PyData.int)).map _ = _; rw [toIs_map]; rfl, h⟩
theorem bx_split (h1 : (y.length == 0) = false) (h2 : x.length + 2 ≤ sizeLine) (h : Q (.list ((Txt.split x y).map PyData.str))) : ∃ c, sSplit x [.str y] = some c ∧ Q c := ⟨_, if_pos ⟨h1, h2⟩, h⟩
theorem bx_join {ns : List Str} (h1 : joinN x ns ≤ 16777216) (h : Q (.str (Txt.join x ns))) : ∃ c, sJoin x [.list (ns.map PyData.str)] = some c ∧ Q c := ⟨.str (Txt.join x ns), by
  show ((toSs (ns.map PyData.str)).bind fun ys => if joinN x ys ≤ 16777216 then some (PyData.str (Txt.join x ys)) else none) = _
  rw [toSs_map]
  exact if_pos h1, h⟩
theorem bx_joinO {P : D → Prop} {ns : List Str} (h1 : joinN x ns ≤ 16777216) (h : P (.str (Txt.join x ns))) : ∃ c, sJoin x [.list (ns.map PyData.str)] = some c ∧ flatD c = true ∧ P c := ⟨.str (Txt.join x ns), by
  show ((toSs (ns.map PyData.str)).bind fun ys => if joinN x ys ≤ 16777216 then some (PyData.str (Txt.join x ys)) else none) = _
  rw [toSs_map]
  exact if_pos h1, rfl, h⟩
theorem bx_rng1 {R : List D → Prop} (h1 : inLine i = true) (h : R (rngD 0 i.toNat)) : ∃ ds, bRng1 (.int i) = some ds ∧ R ds := ⟨_, if_pos h1, h⟩
theorem bx_rng2 {R : List D → Prop} (h1 : inLine i = true) (h2 : inLine j = true) (h : R (rngD i (j - i).toNat)) : ∃ ds, bRng2 (.int i) (.int j) = some ds ∧ R ds := ⟨_, if_pos ⟨h1, h2⟩, h⟩
theorem bx_it_lst {R : List D → Prop} (h : R xs) : ∃ ds, dItems (.list xs) = some ds ∧ R ds := ⟨_, rfl, h⟩
theorem bx_it_tup {R : List D → Prop} (h : R xs) : ∃ ds, dItems (.tuple xs) = some ds ∧ R ds := ⟨_, rfl, h⟩
theorem bx_it_str {R : List D → Prop} (h : R (sgnD x)) : ∃ ds, dItems (.str x) = some ds ∧ R ds := ⟨_, rfl, h⟩
end
theorem inLine_of {i : Int} (h : -(2 ^ 62) ≤ i ∧ i < 2 ^ 62) : inLine i = true := decide_eq_true h
theorem line_of {n : Nat} (h : n ≤ 16777216) : n ≤ sizeLine := h
/-- isinstance: the answers -/
theorem kb (a b : String) (r : Bool) (h : kitB a b = some r := by decide +kernel) : kitB a b = some r := h
theorem kb_ss : kitB "str" "str" = some true := by decide +kernel
theorem kb_is : kitB "int" "str" = some false := by decide +kernel
theorem kb_bs : kitB "bool" "str" = some false := by decide +kernel
theorem kb_ns : kitB "NoneType" "str" = some false := by decide +kernel
theorem kb_ls : kitB "list" "str" = some false := by decide +kernel
theorem kb_ts : kitB "tuple" "str" = some false := by decide +kernel
theorem kb_ii : kitB "int" "int" = some true := by decide +kernel
theorem kb_bi : kitB "bool" "int" = some true := by decide +kernel
theorem kb_si : kitB "str" "int" = some false := by decide +kernel
theorem kb_ni : kitB "NoneType" "int" = some false := by decide +kernel
theorem kb_li : kitB "list" "int" = some false := by decide +kernel
theorem kb_ti : kitB "tuple" "int" = some false := by decide +kernel
theorem kb_bb : kitB "bool" "bool" = some true := by decide +kernel
theorem kb_ib : kitB "int" "bool" = some false := by decide +kernel
theorem kb_sb : kitB "str" "bool" = some false := by decide +kernel
theorem kb_nb : kitB "NoneType" "bool" = some false := by decide +kernel
theorem kb_lb : kitB "list" "bool" = some false := by decide +kernel
theorem kb_tb : kitB "tuple" "bool" = some false := by decide +kernel
theorem kb_tt : kitB "tuple" "tuple" = some true := by decide +kernel
theorem kb_it : kitB "int" "tuple" = some false := by decide +kernel
theorem kb_bt : kitB "bool" "tuple" = some false := by decide +kernel
theorem kb_st : kitB "str" "tuple" = some false := by decide +kernel
theorem kb_nt : kitB "NoneType" "tuple" = some false := by decide +kernel
theorem kb_lt : kitB "list" "tuple" = some false := by decide +kernel
@[reducible] def isBool : D → Bool
  | .bool _ => true
  | _ => false
@[reducible] def isInt : D → Bool
  | .int _ => true
  | .bool _ => true
  | _ => false
@[reducible] def isTup : D → Bool
  | .tuple _ => true
  | _ => false
def noDict : D → Bool
  | .dict _ => false
  | _ => true
section
variable {R : Bool → Prop} {d : D}
theorem bx_isi_str (hd : noDict d = true) (h : R (isStr d)) : ∃ b, kitB (tyD d) "str" = some b ∧ R b := by
  cases d <;> first | exact ⟨_, kb_ss, h⟩ | exact ⟨_, kb_is, h⟩ | exact ⟨_, kb_bs, h⟩ | exact ⟨_, kb_ns, h⟩ | exact ⟨_, kb_ls, h⟩ | exact ⟨_, kb_ts, h⟩ | cases hd
theorem bx_isi_bool (hd : noDict d = true) (h : R (isBool d)) : ∃ b, kitB (tyD d) "bool" = some b ∧ R b := by
  cases d <;> first | exact ⟨_, kb_bb, h⟩ | exact ⟨_, kb_ib, h⟩ | exact ⟨_, kb_sb, h⟩ | exact ⟨_, kb_nb, h⟩ | exact ⟨_, kb_lb, h⟩ | exact ⟨_, kb_tb, h⟩ | cases hd
theorem bx_isi_int (hd : noDict d = true) (h : R (isInt d)) : ∃ b, kitB (tyD d) "int" = some b ∧ R b := by
  cases d <;> first | exact ⟨_, kb_ii, h⟩ | exact ⟨_, kb_bi, h⟩ | exact ⟨_, kb_si, h⟩ | exact ⟨_, kb_ni, h⟩ | exact ⟨_, kb_li, h⟩ | exact ⟨_, kb_ti, h⟩ | cases hd
theorem bx_isi_tup (hd : noDict d = true) (h : R (isTup d)) : ∃ b, kitB (tyD d) "tuple" = some b ∧ R b := by
  cases d <;> first | exact ⟨_, kb_tt, h⟩ | exact ⟨_, kb_it, h⟩ | exact ⟨_, kb_bt, h⟩ | exact ⟨_, kb_st, h⟩ | exact ⟨_, kb_nt, h⟩ | exact ⟨_, kb_lt, h⟩ | cases hd
end
section
variable {A B : Prop} {Q : Sl → Env → Prop} {R : Fl → Env → Prop} {s : Sl} {ps : List Nat} {n : Nat} {e : Env} {p : Prop} {m : M Fl}
theorem seq_nx (h : A) : (Fl.nx = .nx → A) ∧ (Fl.nx ≠ .nx → B) := ⟨fun _ => h, fun z => absurd rfl z⟩
theorem seq_rt (h : B) : (Fl.rt s = .nx → A) ∧ (Fl.rt s ≠ .nx → B) := ⟨fun z => (nomatch z), fun _ => h⟩
theorem seq_bk (h : B) : (Fl.bk = .nx → A) ∧ (Fl.bk ≠ .nx → B) := ⟨fun z => (nomatch z), fun _ => h⟩
theorem seq_ct (h : B) : (Fl.ct = .nx → A) ∧ (Fl.ct ≠ .nx → B) := ⟨fun z => (nomatch z), fun _ => h⟩
theorem fin_rt (h : Q s (outs ps n e)) : (Fl.rt s = .nx → A) ∧ (∀ s', Fl.rt s = .rt s' → Q s' (outs ps n e)) ∧ Fl.rt s ≠ .bk ∧ Fl.rt s ≠ .ct := ⟨fun z => (nomatch z), fun s' z => by cases z; exact h, by simp, by simp⟩
theorem fin_nx (h : A) : (Fl.nx = .nx → A) ∧ (∀ s', Fl.nx = .rt s' → Q s' (outs ps n e)) ∧ Fl.nx ≠ .bk ∧ Fl.nx ≠ .ct := ⟨fun _ => h, fun s' z => (nomatch z), by simp, by simp⟩
theorem turn_nx {C : Sl → Prop} (h : A) : (Fl.nx = .nx ∨ Fl.nx = .ct → A) ∧ (Fl.nx = .bk → B) ∧ (∀ s', Fl.nx = .rt s' → C s') := ⟨fun _ => h, fun z => (nomatch z), fun s' z => (nomatch z)⟩
theorem turn_ct {C : Sl → Prop} (h : A) : (Fl.ct = .nx ∨ Fl.ct = .ct → A) ∧ (Fl.ct = .bk → B) ∧ (∀ s', Fl.ct = .rt s' → C s') := ⟨fun _ => h, fun z => (nomatch z), fun s' z => (nomatch z)⟩
theorem turn_bk {C : Sl → Prop} (h : B) : (Fl.bk = .nx ∨ Fl.bk = .ct → A) ∧ (Fl.bk = .bk → B) ∧ (∀ s', Fl.bk = .rt s' → C s') := ⟨fun z => by simp at z, fun _ => h, fun s' z => (nomatch z)⟩
theorem turn_rt {C : Sl → Prop} (h : C s) : (Fl.rt s = .nx ∨ Fl.rt s = .ct → A) ∧ (Fl.rt s = .bk → B) ∧ (∀ s', Fl.rt s = .rt s' → C s') := ⟨fun z => by simp at z, fun z => (nomatch z), fun s' z => by cases z; exact h⟩
theorem two_T (h : A) : (true = true → A) ∧ (true = false → B) := ⟨fun _ => h, fun z => (nomatch z)⟩
theorem two_F (h : B) : (false = true → A) ∧ (false = false → B) := ⟨fun z => (nomatch z), fun _ => h⟩
theorem two_dec [Decidable p] (h1 : p → A) (h2 : ¬ p → B) : (decide p = true → A) ∧ (decide p = false → B) := ⟨fun z => h1 (of_decide_eq_true z), fun z => h2 (of_decide_eq_false z)⟩
theorem two_dT {α : Type} {a : α} [Decidable (a = a)] (h : A) : (decide (a = a) = true → A) ∧ (decide (a = a) = false → B) := two_dec (fun _ => h) fun z => absurd rfl z
theorem two_ndec [Decidable p] (h1 : ¬ p → A) (h2 : p → B) : ((!decide p) = true → A) ∧ ((!decide p) = false → B) := ⟨fun z => h1 (by simpa using z), fun z => h2 (by simpa using z)⟩
theorem two_not {b : Bool} (h : (b = true → B) ∧ (b = false → A)) : ((!b) = true → A) ∧ ((!b) = false → B) := ⟨fun z => h.2 (by simpa using z), fun z => h.1 (by simpa using z)⟩
theorem toB_bl {b : Bool} {R : Bool → Prop} (h : R b) : ∃ k, toB (.bool b) = some k ∧ R k := ⟨b, rfl, h⟩
end
theorem filter_take_succ {α : Type} (p : α → Bool) (ds : List α) (i : Nat) (d : α) (h : ds[i]? = some d) : (ds.take (i + 1)).filter p = (ds.take i).filter p ++ (if p d then [d] else []) := by
  rw [List.take_add_one, h, List.filter_append]
  cases hp : p d <;> simp [hp]
theorem run_compL_det {δ : Env} {vs : List Nat} {g : D → M Unit} {mt : M Bool} {me : M D} {Q : List D → Env → Prop} (ds : List D) (p : D → Bool) (f : D → D)
    (hs : ∀ d ∈ ds, ∃ e1, g d δ = .ok () e1 ∧ Run mt e1 fun b e2 => b = p d ∧ (b = true → Run me e2 fun y e3 => y = f d ∧ wipeE e3 vs = δ) ∧ (b = false → wipeE e2 vs = δ))
    (k : Q ((ds.filter p).map f) δ) : Run (compL vs g mt me ds) δ Q := by
  refine run_compL ds (fun i ys e => e = δ ∧ ys = ((ds.take i).filter p).map f) ⟨rfl, rfl⟩ (fun i d ys e hd hJ => ?_) fun ys e hJ => ?_
  · obtain ⟨rfl, rfl⟩ := hJ
    obtain ⟨e1, h1, h2⟩ := hs d (List.mem_of_getElem? hd)
    refine ⟨e1, h1, h2.mono fun b e2 h => ?_⟩
    obtain ⟨hb, h3, h4⟩ := h
    refine ⟨fun z => (h3 z).mono fun y e3 hy => ⟨hy.2, ?_⟩, fun z => ⟨h4 z, ?_⟩⟩
    · rw [filter_take_succ p ds i d hd, ← hb, z, hy.1]
      simp
    · rw [filter_take_succ p ds i d hd, ← hb, z]
      simp
  · obtain ⟨rfl, rfl⟩ := hJ
    rw [List.take_length]
    exact k
theorem run_yes {e : Env} {Q : Bool → Env → Prop} (h : Q true e) : Run mYes e Q := Run.i h
theorem mem_sgnD {z : Str} {d : D} (h : d ∈ sgnD z) : ∃ c, c ∈ tl z ∧ d = .str ⟨#[c]⟩ := by
  obtain ⟨c, h1, h2⟩ := List.mem_map.mp h
  exact ⟨c, h1, h2.symm⟩
theorem sgnD_len (z : Str) : (sgnD z).length = z.length := by simp [sgnD, Str.length]
theorem strIn1 {c : Nat} {y : Str} : strIn ⟨#[c]⟩ y = decide (c ∈ tl y) := rfl
theorem inD_strs (x : Str) : ∀ ys : List Str, inD (.str x) (ys.map PyData.str) = ys.contains x
  | [] => rfl
  | y :: ys => by
    have ih := inD_strs x ys
    unfold inD at ih ⊢
    rw [List.map_cons, List.any_cons, ih, List.contains_cons]
    congr 1
    rw [show PyData.eqv (.str y) (.str x) = (y == x) by simp [PyData.eqv]]
    by_cases h : y = x
    · subst h; simp
    · have h' : x ≠ y := fun z => h z.symm
      rw [beq_eq_false_iff_ne.mpr h, beq_eq_false_iff_ne.mpr h']
theorem flat_strs : ∀ ys : List Str, (ys.map PyData.str).all flatD = true
  | [] => rfl
  | y :: ys => by rw [List.map_cons, List.all_cons, flat_strs ys]; rfl
/-- parts of a text are no longer than it -/
theorem spl_len (S : List Nat) : ∀ (l : List Nat) (k : Nat) (acc : List Nat), ∀ p ∈ spl S k acc l, p.length ≤ acc.length + l.length
  | [], k, acc, p, h => by
    rw [spl_nil] at h
    simp at h
    subst h
    simp
  | c :: r, 0, acc, p, h => by
    by_cases hp : pre S (c :: r) = true
    · rw [spl_hit hp] at h
      rcases List.mem_cons.mp h with e | h
      · subst e; simp
      · have := spl_len S r _ _ p h
        simp at this ⊢
        omega
    · rw [spl_miss (by simpa using hp)] at h
      have := spl_len S r _ _ p h
      simp at this ⊢
      omega
  | c :: r, k + 1, acc, p, h => by
    have := spl_len S r k acc p h
    simp at this ⊢
    omega
theorem spl_count (S : List Nat) : ∀ (l : List Nat) (k : Nat) (acc : List Nat), (spl S k acc l).length ≤ l.length + 1
  | [], k, acc => by rw [spl_nil]; simp
  | c :: r, 0, acc => by
    by_cases hp : pre S (c :: r) = true
    · rw [spl_hit hp]
      have := spl_count S r (S.length - 1) []
      simp; omega
    · rw [spl_miss (by simpa using hp)]
      have := spl_count S r 0 (acc ++ [c])
      simp; omega
  | c :: r, k + 1, acc => by
    have := spl_count S r k acc
    show (spl S k acc r).length ≤ _
    simp; omega
theorem run_forL_nil {δ : Env} {g : D → M Unit} {mb : M Fl} {Q : Fl → Env → Prop} (h : Q .nx δ) : Run (forL g mb []) δ Q := Run.i h
theorem run_forL_cons {δ : Env} {g : D → M Unit} {mb : M Fl} {Q : Fl → Env → Prop} {d : D} {ds : List D} (h : ∃ e1, g d δ = .ok () e1 ∧ Run mb e1 fun fl e2 => (fl = .nx ∨ fl = .ct → Run (forL g mb ds) e2 Q) ∧ (fl = .bk → Q .nx e2) ∧ (∀ s, fl = .rt s → Q (.rt s) e2)) : Run (forL g mb (d :: ds)) δ Q := by
  obtain ⟨e1, h1, h2⟩ := h
  unfold Run forL
  rw [h1]
  unfold Run at h2
  dsimp only
  cases q : mb e1 with
  | ok fl e2 =>
    rw [q] at h2
    obtain ⟨a1, a2, a3⟩ := h2
    cases fl with
    | nx => exact a1 (.inl rfl)
    | ct => exact a1 (.inr rfl)
    | bk => exact a2 rfl
    | rt s => exact a3 s rfl
  | exc x e2 => rw [q] at h2; exact h2
  | bad => rw [q] at h2; exact h2
theorem shaped_lst {ss : List Str} (h : ∀ s ∈ ss, PyData.strOk s = true) : SeqAt.shaped (.list (ss.map PyData.str)) = true := by
  have h1 : ∀ l : List Str, (∀ s ∈ l, PyData.strOk s = true) → PyData.canLayAll0 (l.map PyData.str) = true ∧ PyData.depthAll (l.map PyData.str) ≤ 1 := fun l => by
    induction l with
    | nil => intro _; exact ⟨rfl, by simp [PyData.depthAll]⟩
    | cons a r ih =>
      intro hl
      obtain ⟨i1, i2⟩ := ih fun s hs => hl s (List.mem_cons_of_mem _ hs)
      refine ⟨?_, ?_⟩
      · rw [List.map_cons]
        unfold PyData.canLayAll0
        rw [i1]
        simp [PyData.canLay0, hl a List.mem_cons_self]
      · rw [List.map_cons]
        simp [PyData.depthAll, PyData.depth] at i2 ⊢
        omega
  obtain ⟨a, b⟩ := h1 ss h
  unfold SeqAt.shaped
  simp only [PyData.canLay0, a, Bool.true_and, decide_eq_true_eq]
  simp only [PyData.depth]
  omega
theorem flat_int {i : Int} {P : Prop} (h : P) : flatD (.int i) = true ∧ P := ⟨rfl, h⟩
theorem flat_str {x : Str} {P : Prop} (h : P) : flatD (.str x) = true ∧ P := ⟨rfl, h⟩
theorem flat_bl {b : Bool} {P : Prop} (h : P) : flatD (.bool b) = true ∧ P := ⟨rfl, h⟩
theorem eqv_nil (ds : List D) : PyData.eqv (.list ds) (.list []) = ds.isEmpty := by cases ds <;> simp [PyData.eqv, PyData.eqvAll]
theorem split_len {x y : Str} (hy : tl y ≠ []) (hk : y.cps.all (· < 256) = true) : ∀ p ∈ Txt.split x y, p.length ≤ x.length := fun p hp => by
  have e := split_spl x y hy (kind_ok hk)
  have hm : tl p ∈ spl (tl y) 0 [] (tl x) := by rw [← e]; exact List.mem_map_of_mem hp
  have := spl_len _ _ _ _ _ hm
  rw [len_tl, len_tl]
  simpa using this
theorem split_count {x y : Str} (hy : tl y ≠ []) (hk : y.cps.all (· < 256) = true) : (Txt.split x y).length ≤ x.length + 1 := by
  have e := congrArg List.length (split_spl x y hy (kind_ok hk))
  rw [List.length_map] at e
  rw [e, len_tl]
  exact spl_count _ _ _ _
theorem spl_mem (S : List Nat) : ∀ (l : List Nat) (k : Nat) (acc : List Nat), ∀ p ∈ spl S k acc l, ∀ c ∈ p, c ∈ acc ∨ c ∈ l
  | [], k, acc, p, h, c, hc => by
    rw [spl_nil] at h
    simp at h
    subst h
    exact .inl hc
  | a :: r, 0, acc, p, h, c, hc => by
    by_cases hp : pre S (a :: r) = true
    · rw [spl_hit hp] at h
      rcases List.mem_cons.mp h with e | h
      · subst e; exact .inl hc
      · rcases spl_mem S r _ _ p h c hc with z | z
        · cases z
        · exact .inr (List.mem_cons_of_mem _ z)
    · rw [spl_miss (by simpa using hp)] at h
      rcases spl_mem S r _ _ p h c hc with z | z
      · rcases List.mem_append.mp z with z | z
        · exact .inl z
        · exact .inr (by simp at z; simp [z])
      · exact .inr (List.mem_cons_of_mem _ z)
  | a :: r, k + 1, acc, p, h, c, hc => by
    rcases spl_mem S r k acc p h c hc with z | z
    · exact .inl z
    · exact .inr (List.mem_cons_of_mem _ z)
theorem split_mem {x y : Str} (hy : tl y ≠ []) (hk : y.cps.all (· < 256) = true) : ∀ p ∈ Txt.split x y, ∀ c ∈ tl p, c ∈ tl x := fun p hp c hc => by
  have e := split_spl x y hy (kind_ok hk)
  have hm : tl p ∈ spl (tl y) 0 [] (tl x) := by rw [← e]; exact List.mem_map_of_mem hp
  rcases spl_mem _ _ _ _ _ hm c hc with z | z
  · cases z
  · exact z
end Dn
local macro_rules | `(tactic| walk_at "dn") => `(tactic| first
  | ((with_reducible apply Dn.run_var); (exact rfl))
  | with_reducible refine Dn.run_c ?_
  | with_reducible refine Dn.run_bin ?_
  | with_reducible refine Dn.run_seq ?_
  | with_reducible refine Dn.seq_nx ?_
  | with_reducible refine Dn.seq_rt ?_
  | with_reducible refine Dn.run_set ?_
  | with_reducible refine Dn.run_setO ?_
  | with_reducible refine Dn.run_ret ?_
  | with_reducible refine Dn.run_retO ?_
  | with_reducible refine Dn.run_ifS ?_
  | with_reducible refine Dn.run_test ?_
  | with_reducible refine Dn.toB_bl ?_
  | with_reducible refine Dn.run_chain ?_
  | with_reducible refine Dn.run_notT ?_
  | with_reducible refine Dn.run_andT ?_
  | with_reducible refine Dn.run_orT ?_
  | with_reducible refine Dn.run_andV ?_
  | with_reducible refine Dn.run_orV ?_
  | with_reducible refine Dn.run_notV ?_
  | with_reducible refine Dn.run_ifE ?_
  | with_reducible refine Dn.run_nx ?_
  | with_reducible refine Dn.run_yes ?_
  | with_reducible refine Dn.run_pure ?_
  | with_reducible refine Dn.run_agE ?_
  | with_reducible refine Dn.run_ag0 ?_
  | ((with_reducible apply Dn.run_agO); (exact rfl))
  | with_reducible refine Dn.run_callB ?_
  | with_reducible refine Dn.run_callE ?_
  | with_reducible refine Dn.run_callW ?_
  | ((with_reducible apply Dn.run_callO); (exact rfl))
  | with_reducible refine Dn.run_isi ?_
  | with_reducible refine Dn.run_m1 ?_
  | with_reducible refine Dn.run_m1O ?_
  | with_reducible refine Dn.run_m0 ?_
  | ((with_reducible apply Dn.run_ixO); (exact rfl))
  | ((with_reducible apply Dn.run_frz); (exact rfl))
  | with_reducible refine Dn.run_tup ?_
  | with_reducible refine Dn.run_lst ?_
  | with_reducible refine Dn.run_shs ?_
  | with_reducible refine Dn.run_neg ?_
  | with_reducible refine Dn.run_sl ?_
  | with_reducible refine Dn.run_part ?_
  | with_reducible refine Dn.run_noPart ?_
  | with_reducible refine Dn.run_expr ?_
  | with_reducible refine Dn.run_setIx ?_
  | ((with_reducible apply Dn.run_app); (exact rfl))
  | with_reducible refine Dn.run_asg ?_
  | with_reducible refine Dn.run_iter ?_
  | with_reducible refine Dn.run_rng1 ?_
  | with_reducible refine Dn.run_rng2 ?_
  | with_reducible refine Dn.run_for ?_
  | with_reducible refine Dn.run_fr ?_
  | with_reducible refine Dn.run_forL_nil ?_
  | with_reducible refine Dn.run_forL_cons ?_
  | with_reducible refine Dn.run_comp ?_
  | with_reducible refine Dn.bx_add_int ?_
  | with_reducible refine Dn.bx_sub ?_
  | with_reducible refine Dn.bx_lt ?_
  | with_reducible refine Dn.bx_le ?_
  | with_reducible refine Dn.bx_gt ?_
  | with_reducible refine Dn.bx_ge ?_
  | with_reducible refine Dn.bx_eq_int ?_
  | with_reducible refine Dn.bx_eq_str ?_
  | with_reducible refine Dn.bx_eq_bl ?_
  | with_reducible refine Dn.bx_ne_int ?_
  | with_reducible refine Dn.bx_ne_str ?_
  | with_reducible refine Dn.bx_ne_bl ?_
  | with_reducible refine Dn.bx_in_str ?_
  | with_reducible refine Dn.bx_nin_str ?_
  | with_reducible refine Dn.bx_is_bl ?_
  | with_reducible refine Dn.bx_isNot_bl ?_
  | with_reducible refine Dn.bx_is_non ?_
  | with_reducible refine Dn.bx_isNot_non ?_
  | with_reducible refine Dn.bx_sl_tup ?_
  | with_reducible refine Dn.bx_sl_lst ?_
  | with_reducible refine Dn.bx_neg ?_
  | with_reducible refine Dn.bx_len_lst ?_
  | with_reducible refine Dn.bx_len_tup ?_
  | ((with_reducible apply Dn.bx_len_str); (first | assumption | (apply Dn.line_of; omega)))
  | ((with_reducible apply Dn.bx_mod); (first | assumption | omega))
  | ((with_reducible apply Dn.bx_div); (first | assumption | omega))
  | ((with_reducible apply Dn.bx_mul); (first | assumption | omega))
  | ((with_reducible apply Dn.bx_pow); (decide))
  | ((with_reducible apply Dn.bx_rep); (first | assumption | (refine ⟨?_, ?_, of_decide_eq_true rfl⟩ <;> omega)))
  | ((with_reducible apply Dn.bx_add_str); (first | assumption | (apply Dn.line_of; omega)))
  | ((with_reducible apply Dn.bx_sl_str); (first | assumption | (apply Dn.line_of; omega)))
  | ((with_reducible apply Dn.bx_rng1); (first | assumption | (apply Dn.inLine_of; omega)))
  | ((with_reducible apply Dn.bx_isi_str); (first | assumption | rfl))
  | ((with_reducible apply Dn.bx_isi_bool); (first | assumption | rfl))
  | ((with_reducible apply Dn.bx_isi_int); (first | assumption | rfl))
  | ((with_reducible apply Dn.bx_isi_tup); (first | assumption | rfl))
  | with_reducible refine Dn.bx_int_int ?_
  | with_reducible refine Dn.bx_int_bl ?_
  | with_reducible refine Dn.bx_II ?_
  | with_reducible refine Dn.bx_tuple_lst ?_
  | with_reducible refine Dn.bx_tuple_tup ?_
  | with_reducible refine Dn.bx_list_lst ?_
  | with_reducible refine Dn.bx_list_tup ?_
  | with_reducible refine Dn.bx_it_lst ?_
  | with_reducible refine Dn.bx_it_tup ?_
  | with_reducible refine Dn.bx_it_str ?_
  | with_reducible refine Dn.two_dT ?_
  | with_reducible refine Dn.two_not ?_
  | with_reducible refine Dn.two_T ?_
  | with_reducible refine Dn.two_F ?_
  | with_reducible refine Dn.fin_rt ?_
  | with_reducible refine Dn.fin_nx ?_
  | with_reducible refine Dn.turn_nx ?_
  | with_reducible refine Dn.turn_ct ?_
  | with_reducible refine Dn.turn_bk ?_
  | with_reducible refine Dn.turn_rt ?_
  | with_reducible refine Dn.flat_int ?_
  | with_reducible refine Dn.flat_str ?_
  | with_reducible refine Dn.flat_bl ?_
  | (refine ⟨⟨rfl, rfl, of_decide_eq_true rfl, rfl⟩, ?_⟩)
  | (refine ⟨_, rfl, Nat.le_of_ble_eq_true rfl, ?_⟩)
  | (refine ⟨_, rfl, ?_⟩))
namespace Dn
open PySem PySem.Spec PyProof.Rows L2 TL

theorem tl_cutS (x : Str) (lo hi : Option Int) : tl (cutS x lo hi) = ((tl x).drop (HT.sIx x.length 0 lo)).take (HT.sIx x.length x.length hi - HT.sIx x.length 0 lo) := by
  unfold cutS
  simp [tl]
/-- texts of up to n plain signs -/
def Ok (n : Nat) (x : Str) : Prop := x.length ≤ n ∧ ∀ c ∈ tl x, c < 128
theorem Ok.line {n : Nat} {x : Str} (h : Ok n x) (hn : n ≤ 16777216 := by decide) : x.length ≤ sizeLine := Nat.le_trans h.1 hn
theorem Ok.mono {n m : Nat} {x : Str} (h : Ok n x) (k : n ≤ m) : Ok m x := ⟨Nat.le_trans h.1 k, h.2⟩
theorem len_append (x y : Str) : (x ++ y).length = x.length + y.length := by rw [len_tl, len_tl, len_tl, tl_append, List.length_append]
theorem Ok.append {n m : Nat} {x y : Str} (h : Ok n x) (k : Ok m y) : Ok (n + m) (x ++ y) := ⟨by rw [len_append]; have := h.1; have := k.1; omega, fun c hc => by
  rw [tl_append] at hc
  exact (List.mem_append.mp hc).elim (h.2 c) (k.2 c)⟩
theorem cutS_mem {x : Str} {lo hi : Option Int} {c : Nat} (h : c ∈ tl (cutS x lo hi)) : c ∈ tl x := by
  rw [tl_cutS] at h
  exact List.mem_of_mem_drop (List.mem_of_mem_take h)
theorem cutS_len {x : Str} {lo hi : Option Int} : (cutS x lo hi).length ≤ x.length := by
  rw [len_tl, tl_cutS, List.length_take, List.length_drop, ← len_tl]
  omega
theorem Ok.cut {n : Nat} {x : Str} (h : Ok n x) (lo hi : Option Int) : Ok n (cutS x lo hi) := ⟨Nat.le_trans cutS_len h.1, fun c hc => h.2 c (cutS_mem hc)⟩
theorem Ok.lit (x : Str) (n : Nat) (h : (decide (x.length ≤ n) && (tl x).all (· < 128)) = true) : Ok n x := by
  rw [Bool.and_eq_true] at h
  exact ⟨of_decide_eq_true h.1, fun c hc => by simpa using List.all_eq_true.mp h.2 c hc⟩
theorem Ok.one {c : Nat} (h : c < 128) : Ok 1 ⟨#[c]⟩ := ⟨Nat.le_refl 1, fun d hd => by simp [tl] at hd; omega⟩
theorem tl_join (ss : List Str) : tl (Txt.join Str.empty ss) = ss.flatMap tl := by
  show tl (PySem.Builtin.Str.glued _ ss) = _
  rw [StrLaws.glued_eq_join]
  induction ss with
  | nil => rfl
  | cons a r ih =>
    cases r with
    | nil => simp [Str.join]
    | cons b r =>
      show tl (a ++ Str.empty ++ Str.join Str.empty (b :: r)) = _
      rw [tl_append, tl_append, ih]
      simp [tl, Str.empty]
theorem Ok.joined {ss : List Str} {k : Nat} (h : ∀ s ∈ ss, Ok k s) : Ok (ss.length * k) (Txt.join Str.empty ss) := by
  constructor
  · rw [len_tl, tl_join]
    induction ss with
    | nil => simp
    | cons a r ih =>
      have h1 := (h a List.mem_cons_self).1
      have h2 := ih fun s hs => h s (List.mem_cons_of_mem _ hs)
      rw [len_tl] at h1
      rw [List.flatMap_cons, List.length_append, List.length_cons, Nat.succ_mul]
      omega
  · intro c hc
    rw [tl_join] at hc
    obtain ⟨s, hs, hc⟩ := List.mem_flatMap.mp hc
    exact (h s hs).2 c hc
theorem joinN_le {ss : List Str} {k : Nat} (h : ∀ s ∈ ss, s.length ≤ k) : joinN Str.empty ss ≤ ss.length * k := by
  unfold joinN
  show _ + ss.length * 0 ≤ _
  rw [Nat.mul_zero, Nat.add_zero]
  induction ss with
  | nil => simp
  | cons a r ih =>
    have h1 := h a List.mem_cons_self
    have h2 := ih fun s hs => h s (List.mem_cons_of_mem _ hs)
    rw [List.map_cons, List.sum_cons, List.length_cons, Nat.succ_mul]
    omega
theorem Ok.strOk {n : Nat} {x : Str} (h : Ok n x) : PyData.strOk x = true := by
  unfold PyData.strOk
  rw [← Array.all_toList]
  rw [List.all_eq_true]
  intro c hc
  have := h.2 c hc
  first
    | (simp; omega)
    | trace_state
theorem sep_ok {b : Nat} (hb : b < 256) : (⟨#[b]⟩ : Str).cps.all (· < 256) = true := by simp [hb]
theorem Ok.split {n b : Nat} (hb : b < 256) {x : Str} (h : Ok n x) : ∀ p ∈ Txt.split x ⟨#[b]⟩, Ok n p := fun p hp =>
  ⟨Nat.le_trans (split_len (by simp [tl]) (sep_ok hb) p hp) h.1, fun c hc => h.2 c (split_mem (by simp [tl]) (sep_ok hb) p hp c hc)⟩

def St (c : Nat) (st : List D) : Prop := ∃ a b k : Int, st = [.int a, .int b, .int k] ∧ 0 ≤ a ∧ 0 ≤ b ∧ b < 2147483647 ∧ 0 ≤ k ∧ k ≤ c
theorem St.mono {c c' : Nat} {st : List D} (h : St c st) (k : c ≤ c') : St c' st := by
  obtain ⟨a, b, k', e, h1, h2, h3, h4, h5⟩ := h
  exact ⟨a, b, k', e, h1, h2, h3, h4, by omega⟩
def m_deckA : M Fl := (mSeq (mSet 2 (mC (PyData.int 0)))
  (mSeq (mIfS (mTest (mBin dLt (mVar 1) (mCallB bLen [.e (mVar 0)]))) (mSet 2 (mBin dIx (mVar 0) (mVar 1))) mNx)
  (mRetO (mShs [.e (mBin dMul (mVar 2) (mCallB bInt [.e (mBin dGe (mVar 2) (mBin dPow (mC (PyData.int 10)) (mC (PyData.int 18))))])), .e (mBin dMod (mVar 2) (mC (PyData.int 2147483647))), .e (mC (PyData.int 0))]))))
def m_drawA : M Fl := (mSeq (mIfS (mTest (mBin dGt (mIxO 0 (mC (PyData.int 0))) (mC (PyData.int 0)))) (mSeq (mSet 3 (mBin dMod (mIxO 0 (mC (PyData.int 0))) (mVar 1)))
  (mSeq (mSetIx 0 (mC (PyData.int 0)) (mBin dDiv (mIxO 0 (mC (PyData.int 0))) (mVar 1)))
  (mRet (mVar 3)))) mNx)
  (mSeq (mSetIx 0 (mC (PyData.int 2)) (mBin dAdd (mIxO 0 (mC (PyData.int 2))) (mC (PyData.int 1))))
  (mSeq (mSet 2 (mBin dMod (mBin dMul (mBin dAdd (mBin dAdd (mIxO 0 (mC (PyData.int 1))) (mBin dMul (mBin dMul (mC (PyData.int 7919)) (mIxO 0 (mC (PyData.int 2)))) (mIxO 0 (mC (PyData.int 2))))) (mC (PyData.int 31))) (mC (PyData.int 48271))) (mC (PyData.int 2147483647))))
  (mRet (mBin dMod (mBin dDiv (mBin dMod (mBin dMul (mVar 2) (mBin dAdd (mVar 2) (mC (PyData.int 69621)))) (mC (PyData.int 2147483629))) (mC (PyData.int 8))) (mVar 1))))))
theorem drawA {c : Nat} {st : List D} {n : Int} {Q : Sl → Env → Prop} (hs : St c st) (hc : c ≤ 1000000) (hn : 0 < n ∧ n < 1073741824) (h : ∀ (got : Int) (st' : List D), 0 ≤ got → got < n → St (c + 1) st' → Q (.sh (.int got)) [.ow st', .no]) : FRun (fnF 2 4 [0] m_drawA) [.ow st, .sh (.int n)] Q := by
  obtain ⟨a, b, k, rfl, h1, h2, h3, h4, h5⟩ := hs
  refine frun_fn ?_
  unfold m_drawA
  repeat walk_at "dn"
  refine two_dec (fun h6 => ?_) (fun h6 => ?_)
  · repeat walk_at "dn"
    refine h _ _ (Int.emod_nonneg _ (by omega)) (Int.emod_lt_of_pos _ hn.1) ⟨_, _, _, rfl, ?_, h2, h3, h4, by omega⟩
    exact Int.ediv_nonneg h1 (by omega)
  · repeat walk_at "dn"
    refine h _ _ (Int.emod_nonneg _ (by omega)) (Int.emod_lt_of_pos _ hn.1) ⟨_, _, _, rfl, h1, h2, h3, by omega, by omega⟩
theorem deckA {ns : List Int} {k : Int} {Q : Sl → Env → Prop} (hk : 0 ≤ k) (h : ∀ st, St 0 st → Q (.ow st) [.no, .no]) : FRun (fnF 2 3 [] m_deckA) [.sh (.list (ns.map PyData.int)), .sh (.int k)] Q := by
  refine frun_fn ?_
  unfold m_deckA
  have fin : ∀ v : Int, Q (.ow [.int (v * if decide (10 ^ Int.toNat 18 ≤ v) = true then 1 else 0), .int (v % 2147483647), .int 0]) [.no, .no] := fun v => by
    refine h _ ⟨_, _, _, rfl, ?_, Int.emod_nonneg _ (by omega), Int.emod_lt_of_pos _ (by omega), by omega, by omega⟩
    by_cases q : (10 : Int) ^ (18 : Int).toNat ≤ v
    · rw [decide_eq_true q]
      have : (0 : Int) ≤ 10 ^ (18 : Int).toNat := by decide
      simp
      omega
    · rw [decide_eq_false q]
      simp
  repeat walk_at "dn"
  refine two_dec (fun h6 => ?_) (fun h6 => ?_)
  · repeat walk_at "dn"
    rw [List.length_map] at h6
    have hlt : k.toNat < ns.length := by omega
    refine bx_ix_lst (d := .int ns[k.toNat]) ?_ ?_
    · unfold atI ixN
      rw [List.length_map, if_pos hk, if_pos h6]
      simp [hlt]
    repeat walk_at "dn"
    exact fin _
  · repeat walk_at "dn"
    exact fin 0
/-- an index within -/
theorem atI_lt {α : Type} {xs : List α} {i : Int} (h0 : 0 ≤ i) (h1 : i < xs.length) : ∃ x, atI xs i = some x ∧ x ∈ xs := by
  have hlt : i.toNat < xs.length := by omega
  refine ⟨xs[i.toNat], ?_, List.getElem_mem hlt⟩
  unfold atI ixN
  rw [if_pos h0, if_pos h1]
  simp [hlt]
theorem bx_ix_in {xs : List D} {i : Int} {Q : D → Prop} (h0 : 0 ≤ i) (h1 : i < xs.length) (h : ∀ d ∈ xs, Q d) : ∃ c, dIx (.list xs) (.int i) = some c ∧ Q c := by
  obtain ⟨d, e, m⟩ := atI_lt h0 h1
  exact bx_ix_lst e (h d m)
theorem bx_ix_sgn {x : Str} {n : Nat} {i : Int} {Q : D → Prop} (hx : Ok n x) (hn : n ≤ 16777216) (h0 : 0 ≤ i) (h1 : i < x.length) (h : ∀ c ∈ tl x, Q (.str ⟨#[c]⟩)) : ∃ c, dIx (.str x) (.int i) = some c ∧ Q c := by
  obtain ⟨d, e, m⟩ := atI_lt (xs := tl x) h0 (by rw [← len_tl]; exact h1)
  exact bx_ix_str (hx.line hn) e (h d m)
end Dn
namespace Dn
open PySem PySem.Spec PyProof.Rows L2 TL

def abc : Str := "abcdefghijklmnopqrstuvwxyz"
theorem abc_len : abc.length = 26 := by decide
theorem abc_mem : ∀ c ∈ tl abc, 97 ≤ c ∧ c ≤ 122 := by decide
theorem abc_ok : Ok 26 abc := Ok.lit _ _ (by decide)
def Lt (s : Str) : Prop := ∃ c, s = ⟨#[c]⟩ ∧ 97 ≤ c ∧ c ≤ 122
theorem Lt.ok {s : Str} (h : Lt s) : Ok 1 s := by
  obtain ⟨c, rfl, h1, h2⟩ := h
  exact Ok.one (by omega)
def Nm (x : Str) : Prop := 2 ≤ x.length ∧ x.length ≤ 8 ∧ (∀ c ∈ tl x, 97 ≤ c ∧ c ≤ 122) ∧ (tl x).head? = some 113
theorem Nm.ok {x : Str} (h : Nm x) : Ok 8 x := ⟨h.2.1, fun c hc => by have := h.2.2.1 c hc; omega⟩
theorem ix_abc {i : Int} {Q : D → Prop} (h0 : 0 ≤ i) (h1 : i < 26) (h : ∀ s, Lt s → Q (.str s)) : ∃ c, dIx (.str abc) (.int i) = some c ∧ Q c :=
  bx_ix_sgn abc_ok (by decide) h0 (by rw [abc_len]; exact h1) fun c hc => h _ ⟨c, rfl, abc_mem c hc⟩
theorem ixN_in {n : Nat} {i : Int} (h0 : 0 ≤ i) (h1 : i < n) : ixN n i = some i.toNat := by
  unfold ixN
  rw [if_pos h0, if_pos h1]
theorem rngD_at {a : Int} {n i : Nat} {d : D} (h : (rngD a n)[i]? = some d) : d = .int (a + i) ∧ i < n := by
  unfold rngD at h
  rw [List.getElem?_map] at h
  cases q : (List.range n)[i]? with
  | none => rw [q] at h; cases h
  | some k =>
    rw [q] at h
    have hk := List.getElem?_range (n := n) (i := i)
    by_cases hi : i < n
    · rw [List.getElem?_range hi] at q
      cases q
      cases h
      exact ⟨rfl, hi⟩
    · rw [List.getElem?_eq_none (by simp; omega)] at q
      cases q
theorem rngD_length {a : Int} {n : Nat} : (rngD a n).length = n := by simp [rngD]
theorem lt_flat : ∀ ss : List Str, (∀ s ∈ ss, Lt s) → (ss.flatMap tl).length = ss.length ∧ ∀ c ∈ ss.flatMap tl, 97 ≤ c ∧ c ≤ 122
  | [], _ => ⟨rfl, fun c hc => nomatch hc⟩
  | s :: r, h => by
    obtain ⟨c, rfl, h1, h2⟩ := h s List.mem_cons_self
    obtain ⟨i1, i2⟩ := lt_flat r fun t ht => h t (List.mem_cons_of_mem _ ht)
    rw [List.flatMap_cons]
    refine ⟨by rw [List.length_append, i1]; simp [tl]; omega, fun d hd => ?_⟩
    rcases List.mem_append.mp hd with z | z
    · simp [tl] at z
      omega
    · exact i2 d z
theorem Nm.mk' {ss : List Str} {z : Str} (h : ∀ s ∈ ss, Lt s) (h1 : 1 ≤ ss.length) (h6 : ss.length ≤ 6) (hz : z = "" ∨ z = "z") : Nm ("q" ++ Txt.join "" ss ++ z) := by
  obtain ⟨i1, i2⟩ := lt_flat ss h
  have e : tl ("q" ++ Txt.join "" ss ++ z) = 113 :: ss.flatMap tl ++ tl z := by
    rw [tl_append, tl_append]
    have : Txt.join "" ss = Txt.join Str.empty ss := rfl
    rw [this, tl_join]
    rfl
  have zl : (tl z).length ≤ 1 ∧ ∀ c ∈ tl z, 97 ≤ c ∧ c ≤ 122 := by
    rcases hz with rfl | rfl
    · exact ⟨by decide, by decide⟩
    · exact ⟨by decide, by decide⟩
  refine ⟨?_, ?_, fun c hc => ?_, ?_⟩
  · rw [len_tl, e, List.length_append, List.length_cons, i1]
    omega
  · rw [len_tl, e, List.length_append, List.length_cons, i1]
    omega
  · rw [e] at hc
    rcases List.mem_append.mp hc with q | q
    · rcases List.mem_cons.mp q with q | q
      · omega
      · exact i2 c q
    · exact zl.2 c q
  · rw [e]
    rfl
def m_namesA (F : Env → Res Sl) : M Fl := (mSeq (mSet 2 (mC (PyData.str "abcdefghijklmnopqrstuvwxyz")))
  (mSeq (mSetO 3 (mComp (mRng1 (mBin dAdd (mC (PyData.int 1)) (mCallE 2 [0] F [.o 0, .e (mC (PyData.int 6))]))) [8] (mgName 8) mYes (mBin dIx (mVar 2) (mCallE 2 [0] F [.o 0, .e (mC (PyData.int 26))]))))
  (mSeq (mSet 4 (mCallE 2 [0] F [.o 0, .e (mCallO bLen 3)]))
  (mSeq (mSet 5 (mCallE 2 [0] F [.o 0, .e (mC (PyData.int 26))]))
  (mSeq (mSet 6 (mCallE 2 [0] F [.o 0, .e (mC (PyData.int 2))]))
  (mSeq (mSetO 7 (mShs []))
  (mSeq (mFor (mRng1 (mVar 1)) (mgName 8) (mSeq (mSetIx 3 (mVar 4) (mBin dIx (mVar 2) (mBin dMod (mBin dAdd (mVar 5) (mVar 8)) (mC (PyData.int 26)))))
  (mApp 7 (mBin dAdd (mBin dAdd (mC (PyData.str "q")) (mM1O sJoin (mC (PyData.str "")) 3)) (mBin dMul (mC (PyData.str "z")) (mBin dMul (mBin dMod (mVar 8) (mC (PyData.int 2))) (mVar 6)))))))
  (mRet (mFrz 7)))))))))
/-- what a draw does -/
def DrawS (F : Env → Res Sl) : Prop := ∀ {c : Nat} {st : List D} {n : Int} {Q : Sl → Env → Prop}, St c st → c ≤ 1000000 → (0 < n ∧ n < 1073741824) → (∀ (got : Int) (st' : List D), 0 ≤ got → got < n → St (c + 1) st' → Q (.sh (.int got)) [.ow st', .no]) → FRun F [.ow st, .sh (.int n)] Q
theorem draw_s : DrawS (fnF 2 4 [0] m_drawA) := fun hs hc hn h => drawA hs hc hn h
theorem namesA {F : Env → Res Sl} (HF : DrawS F) {c : Nat} {st : List D} {n : Int} {Q : Sl → Env → Prop} (hs : St c st) (hc : c ≤ 900000) (hn : 0 ≤ n ∧ n ≤ 100) (h : ∀ (xs : List Str) (st' : List D), (∀ x ∈ xs, Nm x) → xs.length = n.toNat → St (c + 10) st' → Q (.sh (.list (xs.map PyData.str))) [.ow st', .no]) : FRun (fnF 2 9 [0] (m_namesA F)) [.ow st, .sh (.int n)] Q := by
  refine frun_fn ?_
  unfold m_namesA
  repeat walk_at "dn"
  refine HF hs (by omega) (by omega) fun n1 st1 a1 b1 S1 => ?_
  repeat walk_at "dn"
  refine ⟨rfl, by rw [rngD_length]; exact line_of (by omega), ?_⟩
  refine run_compL _ (fun i ys e => ∃ (ss : List Str) (st' : List D), ys = ss.map PyData.str ∧ ss.length = i ∧ (∀ s ∈ ss, Lt s) ∧ St (c + 1 + i) st' ∧ e = [.ow st', .sh (.int n), .sh (.str abc), .no, .no, .no, .no, .no, .no]) ?_ (fun i d ys e hd hJ => ?_) fun ys e hJ => ?_
  · exact ⟨[], st1, rfl, rfl, by simp, S1, rfl⟩
  · obtain ⟨ss, st', rfl, e2, e3, S, rfl⟩ := hJ
    obtain ⟨rfl, hi⟩ := rngD_at hd
    refine ⟨_, rfl, ?_⟩
    repeat walk_at "dn"
    refine HF S (by omega) (by omega) fun n2 st2 a2 b2 S2 => ?_
    repeat walk_at "dn"
    refine ix_abc a2 b2 fun s hs => ?_
    refine ⟨ss ++ [s], st2, by simp, by simp [e2], fun t ht => ?_, S2, rfl⟩
    rcases List.mem_append.mp ht with q | q
    · exact e3 t q
    · simp at q; subst q; exact hs
  · obtain ⟨ss, st2, rfl, e2, e3, S2, rfl⟩ := hJ
    rw [rngD_length] at e2 S2
    repeat walk_at "dn"
    rw [List.length_map, e2]
    refine HF S2 (by omega) (by omega) fun n3 st3 a3 b3 S3 => ?_
    repeat walk_at "dn"
    refine HF S3 (by omega) (by omega) fun n4 st4 a4 b4 S4 => ?_
    repeat walk_at "dn"
    refine HF S4 (by omega) (by omega) fun n5 st5 a5 b5 S5 => ?_
    repeat walk_at "dn"
    refine run_forL _ (fun i e => ∃ (ss xs : List Str) (z : Sl), ss.length = (1 + n1).toNat ∧ (∀ s ∈ ss, Lt s) ∧ (∀ x ∈ xs, Nm x) ∧ xs.length = i ∧ e = [.ow st5, .sh (.int n), .sh (.str abc), .ow (ss.map PyData.str), .sh (.int n3), .sh (.int n4), .sh (.int n5), .ow (xs.map PyData.str), z]) ?_ (fun i d e hd hI => ?_) fun e hI => ?_
    · exact ⟨ss, [], _, e2, e3, by simp, rfl, rfl⟩
    · obtain ⟨ss, xs, z, f1, f2, f3, f4, rfl⟩ := hI
      obtain ⟨rfl, hi⟩ := rngD_at hd
      refine ⟨_, rfl, ?_⟩
      repeat walk_at "dn"
      refine ix_abc (Int.emod_nonneg _ (by omega)) (Int.emod_lt_of_pos _ (by omega)) fun s hs => ?_
      repeat walk_at "dn"
      refine ⟨n3.toNat, ixN_in a3 (by simp; omega), ?_⟩
      rw [← List.map_set]
      have k1 : (ss.set n3.toNat s).length = (1 + n1).toNat := by rw [List.length_set, f1]
      have k2 : ∀ t ∈ ss.set n3.toNat s, Lt t := fun t ht => (List.mem_or_eq_of_mem_set ht).elim (f2 t) fun q => q ▸ hs
      have k3 : joinN ("" : Str) (ss.set n3.toNat s) ≤ (ss.set n3.toNat s).length * 1 := joinN_le fun t ht => (k2 t ht).ok.1
      have kj : Nm ("q" ++ Txt.join "" (ss.set n3.toNat s) ++ "") := Nm.mk' k2 (by omega) (by omega) (.inl rfl)
      have kk : ("q" ++ Txt.join "" (ss.set n3.toNat s) : Str).length ≤ 8 := by
        have := kj.2.1
        rw [len_append] at this
        exact Nat.le_trans (Nat.le_add_right _ _) this
      have kq : (("q" : Str).length) = 1 := rfl
      have kz : (("z" : Str).length) = 1 := rfl
      have kl : (Txt.join "" (ss.set n3.toNat s) : Str).length ≤ 8 := by
        rw [len_append] at kk
        omega
      repeat walk_at "dn"
      refine bx_joinO (by omega) ?_
      have em : (0 + (i : Int)) % 2 = 0 ∨ (0 + (i : Int)) % 2 = 1 := by omega
      have en : n5 = 0 ∨ n5 = 1 := by omega
      have er : ((0 + (i : Int)) % 2 * n5 = 0) ∨ ((0 + (i : Int)) % 2 * n5 = 1) := by
        rcases em with em | em <;> rcases en with en | en <;> rw [em, en] <;> simp
      have rz : strRep "z" ((0 + (i : Int)) % 2 * n5) = "" ∨ strRep "z" ((0 + (i : Int)) % 2 * n5) = "z" := by
        rcases er with er | er
        · rw [er]; exact .inl rfl
        · rw [er]; exact .inr rfl
      have hrep : -1000000 ≤ (0 + (i : Int)) % 2 * n5 ∧ (0 + (i : Int)) % 2 * n5 ≤ 1000000 ∧ ("z" : Str).length ≤ 16 := by
        refine ⟨?_, ?_, by decide⟩ <;> rcases er with er | er <;> rw [er] <;> decide
      generalize hr : strRep "z" ((0 + (i : Int)) % 2 * n5) = rep at rz
      have rl : rep.length ≤ 1 := by
        rcases rz with rfl | rfl <;> decide
      repeat walk_at "dn"
      rw [hr]
      refine bx_add_str (line_of (by omega)) ?_
      refine ⟨_, rfl, line_of (by rw [List.length_map]; omega), ?_⟩
      refine turn_nx ?_
      refine ⟨ss.set n3.toNat s, xs ++ [("q" ++ Txt.join "" (ss.set n3.toNat s) ++ rep)], _, k1, k2, fun x hx => ?_, by simp [f4], by rw [List.map_append]; rfl⟩
      rcases List.mem_append.mp hx with q | q
      · exact f3 x q
      · simp at q; subst q; exact Nm.mk' k2 (by omega) (by omega) rz
    · obtain ⟨ss, xs, z, f1, f2, f3, f4, rfl⟩ := hI
      refine seq_nx ?_
      repeat walk_at "dn"
      rw [rngD_length] at f4
      exact h xs st5 f3 f4 (S5.mono (by omega))
end Dn
namespace K01
open PySem PySem.Spec PyProof.Rows L2 Dn
def c_LETTERS : D := (PyData.str "abcdefghijklmnopqrstuvwxyz")
def c_LONGEST : D := (PyData.int 8)
def c_TONGUE : D := (PyData.tuple [(PyData.str "take"), (PyData.str "ask"), (PyData.str "number"), (PyData.str "copy"), (PyData.str "mix"), (PyData.str "open"), (PyData.str "tell"), (PyData.str "wipe"), (PyData.str "clear"), (PyData.str "drop"), (PyData.str "choose"), (PyData.str "loop"), (PyData.str "out"), (PyData.str "risk"), (PyData.str "fault"), (PyData.str "call"), (PyData.str "back"), (PyData.str "def"), (PyData.str "main")])
def m_is_name : M Fl := (mSeq (mIfS (mOrT (mNotT (mTest (mIsi "str" (mVar 0)))) (mOrT (mNotT (mTest (mChain dLe dLe (mC (PyData.int 1)) (mCallB bLen [.e (mVar 0)]) (mC c_LONGEST)))) (mTest (mBin dIn (mVar 0) (mC c_TONGUE))))) (mRet (mC (PyData.bool false))) mNx)
  (mRet (mCallB (bBools fun bs => bs.all id) [.e (mFr (mComp (mIter (mVar 0)) [1] (mgName 1) mYes (mBin dIn (mVar 1) (mC c_LETTERS))))])))
def f_is_name : Dn.Env → Res Sl := fnF 1 2 [] m_is_name
def m_first_name : M Fl := (mRet (mBin dIx (mM1 sSplit (mVar 0) (mC (PyData.str "."))) (mC (PyData.int 0))))
def f_first_name : Dn.Env → Res Sl := fnF 1 1 [] m_first_name
def m__law_deck : M Fl := (mSeq (mSet 2 (mC (PyData.int 0)))
  (mSeq (mIfS (mTest (mBin dLt (mVar 1) (mCallB bLen [.e (mVar 0)]))) (mSet 2 (mBin dIx (mVar 0) (mVar 1))) mNx)
  (mRetO (mShs [.e (mBin dMul (mVar 2) (mCallB bInt [.e (mBin dGe (mVar 2) (mBin dPow (mC (PyData.int 10)) (mC (PyData.int 18))))])), .e (mBin dMod (mVar 2) (mC (PyData.int 2147483647))), .e (mC (PyData.int 0))]))))
def f__law_deck : Dn.Env → Res Sl := fnF 2 3 [] m__law_deck
def m__law_draw : M Fl := (mSeq (mIfS (mTest (mBin dGt (mIxO 0 (mC (PyData.int 0))) (mC (PyData.int 0)))) (mSeq (mSet 3 (mBin dMod (mIxO 0 (mC (PyData.int 0))) (mVar 1)))
  (mSeq (mSetIx 0 (mC (PyData.int 0)) (mBin dDiv (mIxO 0 (mC (PyData.int 0))) (mVar 1)))
  (mRet (mVar 3)))) mNx)
  (mSeq (mSetIx 0 (mC (PyData.int 2)) (mBin dAdd (mIxO 0 (mC (PyData.int 2))) (mC (PyData.int 1))))
  (mSeq (mSet 2 (mBin dMod (mBin dMul (mBin dAdd (mBin dAdd (mIxO 0 (mC (PyData.int 1))) (mBin dMul (mBin dMul (mC (PyData.int 7919)) (mIxO 0 (mC (PyData.int 2)))) (mIxO 0 (mC (PyData.int 2))))) (mC (PyData.int 31))) (mC (PyData.int 48271))) (mC (PyData.int 2147483647))))
  (mRet (mBin dMod (mBin dDiv (mBin dMod (mBin dMul (mVar 2) (mBin dAdd (mVar 2) (mC (PyData.int 69621)))) (mC (PyData.int 2147483629))) (mC (PyData.int 8))) (mVar 1))))))
def f__law_draw : Dn.Env → Res Sl := fnF 2 4 [0] m__law_draw
def m__law_tongue : M Fl := (mSeq (mSet 0 (mC (PyData.str "take ask number copy mix open tell wipe clear drop choose loop out risk fault call back def main")))
  (mRet (mM1 sSplit (mVar 0) (mC (PyData.str " ")))))
def f__law_tongue : Dn.Env → Res Sl := fnF 0 1 [] m__law_tongue
def m_is_box : M Fl := (mSeq (mIfS (mNotT (mTest (mIsi "str" (mVar 0)))) (mRet (mC (PyData.bool false))) mNx)
  (mSeq (mSet 1 (mM1 sSplit (mVar 0) (mC (PyData.str "."))))
  (mRet (mAndV (mBin dLe (mCallB bLen [.e (mVar 1)]) (mC (PyData.int 2))) (mCallB (bBools fun bs => bs.all id) [.e (mFr (mComp (mIter (mVar 1)) [2] (mgName 2) mYes (mCallE 1 [] f_is_name [.e (mVar 2)])))])))))
def f_is_box : Dn.Env → Res Sl := fnF 1 3 [] m_is_box
def m_in_record : M Fl := (mRet (mAndV (mBin dIn (mC (PyData.str ".")) (mVar 0)) (mBin dEq (mCallE 1 [] f_first_name [.e (mVar 0)]) (mVar 1))))
def f_in_record : Dn.Env → Res Sl := fnF 2 2 [] m_in_record
def m__law_names : M Fl := (mSeq (mSet 2 (mC (PyData.str "abcdefghijklmnopqrstuvwxyz")))
  (mSeq (mSetO 3 (mComp (mRng1 (mBin dAdd (mC (PyData.int 1)) (mCallE 2 [0] f__law_draw [.o 0, .e (mC (PyData.int 6))]))) [8] (mgName 8) mYes (mBin dIx (mVar 2) (mCallE 2 [0] f__law_draw [.o 0, .e (mC (PyData.int 26))]))))
  (mSeq (mSet 4 (mCallE 2 [0] f__law_draw [.o 0, .e (mCallO bLen 3)]))
  (mSeq (mSet 5 (mCallE 2 [0] f__law_draw [.o 0, .e (mC (PyData.int 26))]))
  (mSeq (mSet 6 (mCallE 2 [0] f__law_draw [.o 0, .e (mC (PyData.int 2))]))
  (mSeq (mSetO 7 (mShs []))
  (mSeq (mFor (mRng1 (mVar 1)) (mgName 8) (mSeq (mSetIx 3 (mVar 4) (mBin dIx (mVar 2) (mBin dMod (mBin dAdd (mVar 5) (mVar 8)) (mC (PyData.int 26)))))
  (mApp 7 (mBin dAdd (mBin dAdd (mC (PyData.str "q")) (mM1O sJoin (mC (PyData.str "")) 3)) (mBin dMul (mC (PyData.str "z")) (mBin dMul (mBin dMod (mVar 8) (mC (PyData.int 2))) (mVar 6)))))))
  (mRet (mFrz 7)))))))))
def f__law_names : Dn.Env → Res Sl := fnF 2 9 [0] m__law_names
def m__law_text : M Fl := (mSeq (mSet 1 (mC (PyData.str "abcdefghijklmnopqrstuvwxyz")))
  (mSeq (mSet 2 (mM1 sJoin (mC (PyData.str "")) (mFr (mComp (mRng1 (mBin dIx (mLst [.e (mC (PyData.int 1)), .e (mC (PyData.int 8)), .e (mC (PyData.int 9)), .e (mC (PyData.int 0)), .e (mC (PyData.int 3)), .e (mC (PyData.int 7)), .e (mC (PyData.int 10)), .e (mC (PyData.int 2))]) (mCallE 2 [0] f__law_draw [.o 0, .e (mC (PyData.int 8))]))) [6] (mgName 6) mYes (mBin dIx (mVar 1) (mCallE 2 [0] f__law_draw [.o 0, .e (mC (PyData.int 26))]))))))
  (mSeq (mSet 3 (mCallE 2 [0] f__law_draw [.o 0, .e (mC (PyData.int 6))]))
  (mSeq (mIfS (mTest (mBin dEq (mVar 3) (mC (PyData.int 0)))) (mSeq (mSet 4 (mC (PyData.str "AZ09 _-.\n{@q")))
  (mSeq (mSet 5 (mCallE 2 [0] f__law_draw [.o 0, .e (mBin dAdd (mCallB bLen [.e (mVar 2)]) (mC (PyData.int 1)))]))
  (mSet 2 (mBin dAdd (mBin dAdd (mSl (mVar 2) mNoPart (mPart (mVar 5))) (mBin dIx (mVar 4) (mCallE 2 [0] f__law_draw [.o 0, .e (mCallB bLen [.e (mVar 4)])]))) (mSl (mVar 2) (mPart (mVar 5)) mNoPart))))) mNx)
  (mSeq (mIfS (mTest (mBin dEq (mVar 3) (mC (PyData.int 1)))) (mSeq (mSet 2 (mBin dIx (mCallE 0 [] f__law_tongue []) (mCallE 2 [0] f__law_draw [.o 0, .e (mC (PyData.int 19))])))
  (mSet 2 (mBin dIx (mLst [.e (mVar 2), .e (mSl (mVar 2) mNoPart (mPart (mNeg (mC (PyData.int 1))))), .e (mBin dAdd (mVar 2) (mBin dIx (mVar 1) (mCallE 2 [0] f__law_draw [.o 0, .e (mC (PyData.int 26))]))), .e (mVar 2)]) (mCallE 2 [0] f__law_draw [.o 0, .e (mC (PyData.int 4))])))) mNx)
  (mRet (mVar 2)))))))
def f__law_text : Dn.Env → Res Sl := fnF 1 7 [0] m__law_text
def m__law_is_name : M Fl := (mSeq (mIfS (mOrT (mNotT (mTest (mChain dLe dLe (mC (PyData.int 1)) (mCallB bLen [.e (mVar 0)]) (mC (PyData.int 8))))) (mTest (mBin dIn (mVar 0) (mCallE 0 [] f__law_tongue [])))) (mRet (mC (PyData.bool false))) mNx)
  (mRet (mBin dEq (mFr (mComp (mIter (mVar 0)) [1] (mgName 1) (mTest (mBin dNotIn (mVar 1) (mC (PyData.str "abcdefghijklmnopqrstuvwxyz")))) (mVar 1))) (mLst []))))
def f__law_is_name : Dn.Env → Res Sl := fnF 1 2 [] m__law_is_name
def m__law_is_box : M Fl := (mSeq (mSet 1 (mM1 sSplit (mVar 0) (mC (PyData.str "."))))
  (mRet (mAndV (mBin dLt (mCallB bLen [.e (mVar 1)]) (mC (PyData.int 3))) (mBin dEq (mFr (mComp (mIter (mVar 1)) [2] (mgName 2) (mNotT (mTest (mCallE 1 [] f__law_is_name [.e (mVar 2)]))) (mVar 2))) (mLst [])))))
def f__law_is_box : Dn.Env → Res Sl := fnF 1 3 [] m__law_is_box
def m__law_records_right : M Fl := (mSeq (mAsg (mgLst 3 (mgCons (mgName 2) (mgCons (mgName 3) (mgCons (mgName 4) mgNil)))) (mFr (mComp (mRng1 (mC (PyData.int 3))) [8] (mgName 8) mYes (mBin dIx (mVar 1) (mCallE 2 [0] f__law_draw [.o 0, .e (mCallB bLen [.e (mVar 1)])])))))
  (mSeq (mFor (mIter (mLst [.e (mTup [.e (mBin dAdd (mBin dAdd (mVar 2) (mC (PyData.str "."))) (mVar 3)), .e (mBin dEq (mVar 2) (mVar 4))]), .e (mTup [.e (mVar 2), .e (mC (PyData.bool false))]), .e (mTup [.e (mBin dAdd (mBin dAdd (mVar 2) (mC (PyData.str "."))) (mVar 4)), .e (mBin dEq (mVar 2) (mVar 4))])])) (mgTup 2 (mgCons (mgName 5) (mgCons (mgName 6) mgNil))) (mSeq (mSet 7 (mCallE 2 [] f_in_record [.e (mVar 5), .e (mVar 4)]))
  (mIfS (mOrT (mNotT (mTest (mIsi "bool" (mVar 7)))) (mTest (mBin dNe (mVar 7) (mVar 6)))) (mRet (mC (PyData.bool false))) mNx)))
  (mRet (mC (PyData.bool true)))))
def f__law_records_right : Dn.Env → Res Sl := fnF 2 9 [0] m__law_records_right
def m__law_right : M Fl := (mSeq (mFor (mIter (mLst [.e (mTup [.e (mCallE 1 [] f_is_name [.e (mVar 0)]), .e (mCallE 1 [] f__law_is_name [.e (mVar 0)])]), .e (mTup [.e (mCallE 1 [] f_is_box [.e (mVar 0)]), .e (mCallE 1 [] f__law_is_box [.e (mVar 0)])])])) (mgTup 2 (mgCons (mgName 1) (mgCons (mgName 2) mgNil))) (mIfS (mOrT (mNotT (mTest (mIsi "bool" (mVar 1)))) (mTest (mBin dNe (mVar 1) (mVar 2)))) (mRet (mC (PyData.bool false))) mNx))
  (mRet (mC (PyData.bool true))))
def f__law_right : Dn.Env → Res Sl := fnF 1 3 [] m__law_right
def m_law : M Fl := (mSeq (mFor (mIter (mLst [.e (mC PyData.none), .e (mC (PyData.int 5)), .e (mC (PyData.bool true)), .e (mTup []), .e (mTup [.e (mC (PyData.str "a"))]), .e (mLst [.e (mC (PyData.str "a"))]), .e (mBin dPow (mC (PyData.int 10)) (mC (PyData.int 30))), .e (mTup [.e (mC (PyData.str "a")), .e (mC (PyData.str "b"))])])) (mgName 1) (mIfS (mOrT (mTest (mBin dIsNot (mCallE 1 [] f_is_name [.e (mVar 1)]) (mC (PyData.bool false)))) (mTest (mBin dIsNot (mCallE 1 [] f_is_box [.e (mVar 1)]) (mC (PyData.bool false))))) (mRet (mC (PyData.bool false))) mNx))
  (mSeq (mFor (mRng1 (mCallB (bII fun i j => if j > i then j else i) [.e (mC (PyData.int 1)), .e (mCallB (bII fun i j => if j < i then j else i) [.e (mCallB bLen [.e (mVar 0)]), .e (mC (PyData.int 20))])])) (mgName 2) (mSeq (mSetO 3 (mCallW 2 [] f__law_deck [.e (mVar 0), .e (mVar 2)]))
  (mSeq (mSet 4 (mCallE 1 [0] f__law_text [.o 3]))
  (mSeq (mSet 5 (mCallE 1 [0] f__law_text [.o 3]))
  (mSeq (mSet 6 (mBin dIx (mLst [.e (mC (PyData.str "")), .e (mC (PyData.str ".")), .e (mC (PyData.str "..")), .e (mC (PyData.str "."))]) (mCallE 2 [0] f__law_draw [.o 3, .e (mC (PyData.int 4))])))
  (mSeq (mFor (mIter (mLst [.e (mVar 4), .e (mVar 5), .e (mBin dAdd (mBin dAdd (mVar 4) (mVar 6)) (mVar 5)), .e (mBin dAdd (mVar 4) (mC (PyData.str "."))), .e (mBin dAdd (mC (PyData.str ".")) (mVar 4)), .e (mBin dAdd (mBin dAdd (mBin dAdd (mBin dAdd (mVar 4) (mC (PyData.str "."))) (mVar 5)) (mC (PyData.str "."))) (mVar 4))])) (mgName 7) (mIfS (mNotT (mTest (mCallE 1 [] f__law_right [.e (mVar 7)]))) (mRet (mC (PyData.bool false))) mNx))
  (mSeq (mSet 8 (mCallE 2 [0] f__law_names [.o 3, .e (mC (PyData.int 3))]))
  (mSeq (mSet 8 (mBin dAdd (mVar 8) (mLst [.e (mSl (mBin dIx (mVar 8) (mC (PyData.int 0))) mNoPart (mPart (mC (PyData.int 2)))), .e (mSl (mBin dIx (mVar 8) (mC (PyData.int 0))) mNoPart (mPart (mC (PyData.int 1)))), .e (mSl (mBin dIx (mVar 8) (mC (PyData.int 1))) mNoPart (mPart (mNeg (mC (PyData.int 1)))))])))
  (mIfS (mNotT (mTest (mCallE 2 [0] f__law_records_right [.o 3, .e (mBin dAdd (mVar 8) (mLst [.e (mC (PyData.str "same")), .e (mC (PyData.str "way")), .e (mC (PyData.str "ways")), .e (mC (PyData.str "wa"))]))]))) (mRet (mC (PyData.bool false))) mNx)))))))))
  (mRet (mC (PyData.bool true)))))
def f_law : Dn.Env → Res Sl := fnF 1 9 [] m_law
/-- the law is True at every script: said upon data -/
def Good : Prop := ∀ ns : List Int, ns.length ≤ 63 → ∃ δ, f_law [.sh (.list (ns.map PyData.int))] = .ok (.sh (.bool true)) δ
end K01
namespace K01
open PySem PySem.Spec PyProof.Rows L2 Dn TL
def strP (f : Str → Bool) : D → Bool
  | .str y => f y
  | _ => false
def letters : Str := "abcdefghijklmnopqrstuvwxyz"
def inLet (y : Str) : Bool := strIn y letters
def tongue : List Str := ["take", "ask", "number", "copy", "mix", "open", "tell", "wipe", "clear", "drop", "choose", "loop", "out", "risk", "fault", "call", "back", "def", "main"]
def lettersB (x : Str) : Bool := (tl x).all fun c => decide (c ∈ tl letters)
def nameB (x : Str) : Bool := decide (1 ≤ x.length ∧ x.length ≤ 8) && !tongue.contains x && lettersB x
theorem sgn_all {x : Str} : ((sgnD x).map fun d => PyData.bool (strP inLet d)) = ((tl x).map fun c => decide (c ∈ tl letters)).map PyData.bool := by
  unfold sgnD
  rw [List.map_map, List.map_map]
  rfl
theorem in_tongue {x : Str} {Q : D → Prop} (h : Q (.bool (tongue.contains x))) : ∃ c, dIn (.str x) c_TONGUE = some c ∧ Q c := by
  have e : c_TONGUE = .tuple (tongue.map PyData.str) := rfl
  rw [e]
  exact bx_in_tup rfl (flat_strs _) (by rw [inD_strs]; exact h)
theorem f_is_name_str {x : Str} {Q : Sl → Dn.Env → Prop} (hx : x.length ≤ sizeLine) (h : Q (.sh (.bool (nameB x))) [.no]) : FRun f_is_name [.sh (.str x)] Q := by
  refine frun_fn ?_
  unfold m_is_name
  repeat walk_at "dn"
  have no : nameB x = false → Q (.sh (.bool false)) (outs [] 1 [Sl.sh (PyData.str x), Sl.no]) := fun z => by rw [z] at h; exact h
  refine two_dec (fun h1 => ?_) (fun h1 => ?_)
  · repeat walk_at "dn"
    refine two_dec (fun h2 => ?_) (fun h2 => ?_)
    · repeat (first | with_reducible refine in_tongue ?_ | walk_at "dn")
      refine ⟨fun h3 => ?_, fun h3 => ?_⟩
      · repeat walk_at "dn"
        exact no (by unfold nameB; rw [h3]; simp)
      · repeat walk_at "dn"
        refine ⟨rfl, by rw [sgnD_len]; exact hx, run_compL_det _ (fun _ => true) (fun d => .bool (strP inLet d)) (fun d hd => ⟨_, rfl, ?_⟩) ?_⟩
        · obtain ⟨c, hc, rfl⟩ := mem_sgnD hd
          repeat walk_at "dn"
          refine ⟨rfl, fun _ => ?_, fun z => nomatch z⟩
          repeat walk_at "dn"
          exact ⟨rfl, rfl⟩
        · repeat walk_at "dn"
          rw [List.filter_eq_self.mpr (by simp), sgn_all]
          refine bx_bools ?_
          repeat walk_at "dn"
          have e : nameB x = (List.all ((tl x).map fun c => decide (c ∈ tl letters)) id) := by
            unfold nameB lettersB
            rw [h3, decide_eq_true (show 1 ≤ x.length ∧ x.length ≤ 8 from ⟨by omega, by omega⟩)]
            simp [List.all_map]
          rw [← e]
          exact h
    · repeat walk_at "dn"
      exact no (by unfold nameB; rw [decide_eq_false (fun z => h2 (by have := z.2; omega))]; rfl)
  · repeat walk_at "dn"
    exact no (by unfold nameB; rw [decide_eq_false (fun z => h1 (by have := z.1; omega))]; rfl)
theorem f_is_name_no {d : D} {Q : Sl → Dn.Env → Prop} (hd : isStr d = false) (hn : noDict d = true) (h : Q (.sh (.bool false)) [.no]) : FRun f_is_name [.sh d] Q := by
  refine frun_fn ?_
  unfold m_is_name
  repeat walk_at "dn"
  rw [hd]
  repeat walk_at "dn"
  exact h
theorem bx_is_f {Q : D → Prop} (h : Q (.bool true)) : ∃ c, dIs (.bool false) (.bool false) = some c ∧ Q c := ⟨_, rfl, h⟩
def parts (x : Str) : List Str := Txt.split x "."
def boxB (x : Str) : Bool := decide ((parts x).length ≤ 2) && (parts x).all nameB
theorem dot_is : ("." : Str) = ⟨#[46]⟩ := rfl
theorem parts_ok {n : Nat} {x : Str} (h : Ok n x) : ∀ p ∈ parts x, Ok n p := fun p hp => h.split (b := 46) (by decide) p hp
theorem parts_len {x : Str} : (parts x).length ≤ x.length + 1 := split_count (y := ⟨#[46]⟩) (by decide) (sep_ok (by decide))
theorem bx_parts {x : Str} {Q : D → Prop} (hx : x.length ≤ 100000) (h : Q (.list ((parts x).map PyData.str))) : ∃ c, sSplit x [.str "."] = some c ∧ Q c := bx_split rfl (by unfold sizeLine; omega) h
theorem filter_true {α : Type} (l : List α) : l.filter (fun _ => true) = l := List.filter_eq_self.mpr (by simp)
theorem f_is_box_str {n : Nat} {x : Str} {Q : Sl → Dn.Env → Prop} (hx : Ok n x) (hn : n ≤ 100000) (h : Q (.sh (.bool (boxB x))) [.no]) : FRun f_is_box [.sh (.str x)] Q := by
  have hl := hx.1
  refine frun_fn ?_
  unfold m_is_box
  repeat walk_at "dn"
  refine bx_parts (by omega) ?_
  repeat walk_at "dn"
  rw [List.length_map]
  have no : boxB x = false → Q (.sh (.bool false)) (outs [] 1 [Sl.sh (PyData.str x), Sl.sh (.list ((parts x).map PyData.str)), Sl.no]) := fun z => by rw [z] at h; exact h
  refine two_dec (fun h1 => ?_) (fun h1 => ?_)
  · repeat walk_at "dn"
    refine ⟨rfl, by rw [List.length_map]; exact line_of (by omega), run_compL_det _ (fun _ => true) (fun d => .bool (strP nameB d)) (fun d hd => ?_) ?_⟩
    · obtain ⟨p, hp, rfl⟩ := List.mem_map.mp hd
      refine ⟨_, rfl, ?_⟩
      repeat walk_at "dn"
      refine ⟨rfl, fun _ => ?_, fun z => nomatch z⟩
      repeat walk_at "dn"
      refine f_is_name_str ((parts_ok hx p hp).line (by omega)) ?_
      repeat walk_at "dn"
      exact ⟨rfl, rfl⟩
    · repeat walk_at "dn"
      rw [filter_true, List.map_map, show ((fun d => PyData.bool (strP nameB d)) ∘ PyData.str) = (PyData.bool ∘ nameB) from funext fun _ => rfl, ← List.map_map]
      refine bx_bools ?_
      repeat walk_at "dn"
      have e : boxB x = List.all ((parts x).map nameB) id := by
        unfold boxB
        rw [decide_eq_true (by omega)]
        simp [List.all_map]
      rw [← e]
      exact h
  · repeat walk_at "dn"
    exact no (by unfold boxB; rw [decide_eq_false (by omega)]; rfl)
theorem f_is_box_no {d : D} {Q : Sl → Dn.Env → Prop} (hd : isStr d = false) (hn : noDict d = true) (h : Q (.sh (.bool false)) [.no]) : FRun f_is_box [.sh d] Q := by
  refine frun_fn ?_
  unfold m_is_box
  repeat walk_at "dn"
  rw [hd]
  repeat walk_at "dn"
  exact h
theorem tongue_is : Txt.split "take ask number copy mix open tell wipe clear drop choose loop out risk fault call back def main" " " = tongue := by decide +kernel
theorem f__tongue {Q : Sl → Dn.Env → Prop} (h : Q (.sh (.list (tongue.map PyData.str))) []) : FRun f__law_tongue [] Q := by
  refine frun_fn ?_
  unfold m__law_tongue
  repeat walk_at "dn"
  rw [tongue_is]
  exact h
def oddB (c : Nat) : Bool := !decide (c ∈ tl letters)
theorem sgn_odd {x : Str} : ((sgnD x).filter fun d => !(strP inLet d)).map (fun d => d) = (((tl x).filter oddB).map fun c => (⟨#[c]⟩ : Str)).map PyData.str := by
  unfold sgnD
  rw [List.filter_map, List.map_map, List.map_map]
  rfl
theorem odd_ok {n : Nat} {x : Str} (hx : Ok n x) : ∀ s ∈ ((tl x).filter oddB).map (fun c => (⟨#[c]⟩ : Str)), PyData.strOk s = true := fun s hs => by
  obtain ⟨c, hc, rfl⟩ := List.mem_map.mp hs
  exact (Ok.one (hx.2 c (List.mem_filter.mp hc).1)).strOk
theorem odd_none {x : Str} : ((((tl x).filter oddB).map fun c => (⟨#[c]⟩ : Str)).map PyData.str).isEmpty = lettersB x := by
  unfold lettersB
  generalize tl x = l
  induction l with
  | nil => rfl
  | cons c r ih =>
    rw [List.all_cons, ← ih, List.filter_cons]
    unfold oddB
    by_cases h : c ∈ tl letters
    · simp [h]
    · simp [h]
theorem f__is_name {n : Nat} {x : Str} {Q : Sl → Dn.Env → Prop} (hx : Ok n x) (hn : n ≤ 100000) (h : Q (.sh (.bool (nameB x))) [.no]) : FRun f__law_is_name [.sh (.str x)] Q := by
  have hl := hx.1
  refine frun_fn ?_
  unfold m__law_is_name
  repeat walk_at "dn"
  have no : nameB x = false → Q (.sh (.bool false)) (outs [] 1 [Sl.sh (PyData.str x), Sl.no]) := fun z => by rw [z] at h; exact h
  refine two_dec (fun h1 => ?_) (fun h1 => ?_)
  · repeat walk_at "dn"
    refine two_dec (fun h2 => ?_) (fun h2 => ?_)
    · repeat walk_at "dn"
      refine f__tongue ?_
      repeat walk_at "dn"
      rw [inD_strs]
      refine ⟨fun h3 => ?_, fun h3 => ?_⟩
      · repeat walk_at "dn"
        exact no (by unfold nameB; rw [h3]; simp)
      · repeat walk_at "dn"
        refine ⟨rfl, by rw [sgnD_len]; exact hx.line (by omega), run_compL_det _ (fun d => !(strP inLet d)) (fun d => d) (fun d hd => ⟨_, rfl, ?_⟩) ?_⟩
        · obtain ⟨c, hc, rfl⟩ := mem_sgnD hd
          repeat walk_at "dn"
          refine ⟨rfl, fun _ => ?_, fun _ => rfl⟩
          repeat walk_at "dn"
          exact ⟨rfl, rfl⟩
        · rw [sgn_odd]
          repeat walk_at "dn"
          refine bx_eq (.inl rfl) (shaped_lst (odd_ok hx)) rfl ?_
          rw [eqv_nil, odd_none]
          repeat walk_at "dn"
          have e : nameB x = lettersB x := by
            unfold nameB
            rw [h3, decide_eq_true (show 1 ≤ x.length ∧ x.length ≤ 8 from ⟨by omega, by omega⟩)]
            rfl
          rw [← e]
          exact h
    · repeat walk_at "dn"
      exact no (by unfold nameB; rw [decide_eq_false (fun z => h2 (by have := z.2; omega))]; rfl)
  · repeat walk_at "dn"
    exact no (by unfold nameB; rw [decide_eq_false (fun z => h1 (by have := z.1; omega))]; rfl)
theorem parts_odd {ps : List Str} : ((ps.map PyData.str).filter fun d => !(strP nameB d)).map (fun d => d) = (ps.filter fun y => !nameB y).map PyData.str := by
  rw [List.filter_map, List.map_map]
  rfl
theorem f__is_box {n : Nat} {x : Str} {Q : Sl → Dn.Env → Prop} (hx : Ok n x) (hn : n ≤ 100000) (h : Q (.sh (.bool (boxB x))) [.no]) : FRun f__law_is_box [.sh (.str x)] Q := by
  have hl := hx.1
  refine frun_fn ?_
  unfold m__law_is_box
  repeat walk_at "dn"
  refine bx_parts (by omega) ?_
  repeat walk_at "dn"
  rw [List.length_map]
  have no : boxB x = false → Q (.sh (.bool false)) (outs [] 1 [Sl.sh (PyData.str x), Sl.sh (.list ((parts x).map PyData.str)), Sl.no]) := fun z => by rw [z] at h; exact h
  refine two_dec (fun h1 => ?_) (fun h1 => ?_)
  · repeat walk_at "dn"
    refine ⟨rfl, by rw [List.length_map]; exact line_of (by omega), run_compL_det _ (fun d => !(strP nameB d)) (fun d => d) (fun d hd => ?_) ?_⟩
    · obtain ⟨p, hp, rfl⟩ := List.mem_map.mp hd
      refine ⟨_, rfl, ?_⟩
      repeat walk_at "dn"
      refine f__is_name (parts_ok hx p hp) hn ?_
      repeat walk_at "dn"
      refine ⟨rfl, fun _ => ?_, fun _ => rfl⟩
      repeat walk_at "dn"
      exact ⟨rfl, rfl⟩
    · rw [parts_odd]
      repeat walk_at "dn"
      refine bx_eq (.inl rfl) (shaped_lst fun s hs => (parts_ok hx s (List.mem_filter.mp hs).1).strOk) rfl ?_
      rw [eqv_nil]
      repeat walk_at "dn"
      have e : boxB x = ((((parts x).filter fun y => !nameB y).map PyData.str).isEmpty) := by
        unfold boxB
        rw [decide_eq_true (by omega), Bool.true_and]
        generalize parts x = l
        induction l with
        | nil => rfl
        | cons a r ih =>
          rw [List.all_cons, List.filter_cons, ih]
          cases nameB a <;> simp
      rw [← e]
      exact h
  · repeat walk_at "dn"
    exact no (by unfold boxB; rw [decide_eq_false (by omega)]; rfl)
theorem f__right {n : Nat} {x : Str} {Q : Sl → Dn.Env → Prop} (hx : Ok n x) (hn : n ≤ 100000) (h : Q (.sh (.bool true)) [.no]) : FRun f__law_right [.sh (.str x)] Q := by
  refine frun_fn ?_
  unfold m__law_right
  repeat walk_at "dn"
  refine f_is_name_str (hx.line (by omega)) ?_
  repeat walk_at "dn"
  refine f__is_name hx hn ?_
  repeat walk_at "dn"
  refine f_is_box_str hx hn ?_
  repeat walk_at "dn"
  refine f__is_box hx hn ?_
  repeat walk_at "dn"
  exact h
end K01
namespace K01
open PySem PySem.Spec PyProof.Rows L2 Dn TL
theorem seqif {δ : Dn.Env} {t : M Bool} {m1 m2 m3 : M Fl} {Q : Fl → Dn.Env → Prop} (h : Dn.Run (mSeq (mIfS t m1 m2) m3) δ Q) : Dn.Run (mSeq (mIfS t m1 m2) m3) δ Q := h
theorem run_seqP {δ : Dn.Env} {m1 m2 : M Fl} {Q : Fl → Dn.Env → Prop} (P : Dn.Env → Prop) (h1 : Run m1 δ fun fl e => fl = .nx ∧ P e) (h2 : ∀ e, P e → Run m2 e Q) : Run (mSeq m1 m2) δ Q := by
  refine run_seq (h1.mono fun fl e h => ?_)
  obtain ⟨rfl, h⟩ := h
  exact seq_nx (h2 e h)
theorem draw_1 : DrawS f__law_draw := draw_s
theorem deck_1 {ns : List Int} {k : Int} {Q : Sl → Dn.Env → Prop} (hk : 0 ≤ k) (h : ∀ st, St 0 st → Q (.ow st) [.no, .no]) : FRun f__law_deck [.sh (.list (ns.map PyData.int)), .sh (.int k)] Q := deckA hk h
theorem names_1 {c : Nat} {st : List D} {n : Int} {Q : Sl → Dn.Env → Prop} (hs : St c st) (hc : c ≤ 900000) (hn : 0 ≤ n ∧ n ≤ 100) (h : ∀ (xs : List Str) (st' : List D), (∀ x ∈ xs, Nm x) → xs.length = n.toNat → St (c + 10) st' → Q (.sh (.list (xs.map PyData.str))) [.ow st', .no]) : FRun f__law_names [.ow st, .sh (.int n)] Q := namesA draw_1 hs hc hn h
def oddS : Str := "AZ09 _-.\n{@q"
theorem odd_o : Ok 12 oddS := Ok.lit _ _ (by decide)
theorem odd_len : oddS.length = 12 := by decide
theorem odd_len' : ("AZ09 _-.\n{@q" : Str).length = 12 := by decide
theorem ix_ten {i : Int} {Q : D → Prop} (h0 : 0 ≤ i) (h1 : i < 8) (h : ∀ k : Int, 0 ≤ k → k ≤ 10 → Q (.int k)) : ∃ c, dIx (.list [.int 1, .int 8, .int 9, .int 0, .int 3, .int 7, .int 10, .int 2]) (.int i) = some c ∧ Q c := by
  refine bx_ix_in h0 (by simpa using h1) fun d hd => ?_
  have hm : ∃ k : Int, d = .int k ∧ 0 ≤ k ∧ k ≤ 10 := by
    simp at hd
    rcases hd with rfl | rfl | rfl | rfl | rfl | rfl | rfl | rfl <;> exact ⟨_, rfl, by omega, by omega⟩
  obtain ⟨k, rfl, a, b⟩ := hm
  exact h k a b
theorem tongue_ok : ∀ x ∈ tongue, Ok 6 x := by
  intro x hx
  have : tongue.all (fun x => decide (x.length ≤ 6) && (tl x).all (· < 128)) = true := by decide
  exact Ok.lit x 6 (List.all_eq_true.mp this x hx)
theorem f__text {c : Nat} {st : List D} {Q : Sl → Dn.Env → Prop} (hs : St c st) (hc : c ≤ 900000) (h : ∀ (x : Str) (st' : List D), Ok 40 x → St (c + 20) st' → Q (.sh (.str x)) [.ow st']) : FRun f__law_text [.ow st] Q := by
  refine frun_fn ?_
  unfold m__law_text
  repeat walk_at "dn"
  refine draw_1 hs (by omega) (by omega) fun n1 st1 a1 b1 S1 => ?_
  repeat walk_at "dn"
  refine ix_ten a1 b1 fun k k0 k1 => ?_
  repeat walk_at "dn"
  refine ⟨rfl, by rw [rngD_length]; exact line_of (by omega), ?_⟩
  refine run_compL _ (fun i ys e => ∃ (ss : List Str) (st' : List D), ys = ss.map PyData.str ∧ ss.length = i ∧ (∀ s ∈ ss, Lt s) ∧ St (c + 1 + i) st' ∧ e = [.ow st', .sh (.str abc), .no, .no, .no, .no, .no]) ?_ (fun i d ys e hd hJ => ?_) fun ys e hJ => ?_
  · exact ⟨[], st1, rfl, rfl, by simp, S1, rfl⟩
  · obtain ⟨ss, st', rfl, e2, e3, S, rfl⟩ := hJ
    obtain ⟨rfl, hi⟩ := rngD_at hd
    refine ⟨_, rfl, ?_⟩
    repeat walk_at "dn"
    refine draw_1 S (by omega) (by omega) fun n2 st2 a2 b2 S2 => ?_
    repeat walk_at "dn"
    refine ix_abc a2 b2 fun s hs => ?_
    refine ⟨ss ++ [s], st2, by simp, by simp [e2], fun t ht => ?_, S2, rfl⟩
    rcases List.mem_append.mp ht with q | q
    · exact e3 t q
    · simp at q; subst q; exact hs
  · obtain ⟨ss, st2, rfl, e2, e3, S2, rfl⟩ := hJ
    rw [rngD_length] at e2 S2
    have j1 : joinN ("" : Str) ss ≤ ss.length * 1 := joinN_le fun t ht => (e3 t ht).ok.1
    have j2 : Ok (ss.length * 1) (Txt.join "" ss) := Ok.joined fun t ht => (e3 t ht).ok
    replace j2 : Ok 10 (Txt.join "" ss) := j2.mono (by omega)
    repeat walk_at "dn"
    refine bx_join (by omega) ?_
    generalize Txt.join "" ss = x at j2
    repeat walk_at "dn"
    refine draw_1 S2 (by omega) (by omega) fun w st3 a3 b3 S3 => ?_
    repeat ((fail_if_success (with_reducible apply seqif)); walk_at "dn")
    refine run_seqP (fun e => ∃ (x : Str) (st' : List D) (s4 s5 : Sl), Ok 23 x ∧ St (c + 14) st' ∧ e = [.ow st', .sh (.str abc), .sh (.str x), .sh (.int w), s4, s5, .no]) ?_ fun e he => ?_
    · repeat walk_at "dn"
      refine two_dec (fun w0 => ?_) (fun w0 => ?_)
      · have jl := j2.1
        repeat walk_at "dn"
        refine draw_1 S3 (by omega) (by omega) fun p st4 a4 b4 S4 => ?_
        repeat walk_at "dn"
        rw [odd_len']
        refine draw_1 S4 (by omega) (by omega) fun q st5 a5 b5 S5 => ?_
        repeat walk_at "dn"
        refine bx_ix_sgn odd_o (by decide) a5 (by rw [odd_len']; exact b5) fun ch hch => ?_
        have o1 := j2.cut none (some p)
        have o2 := j2.cut (some p) none
        have o3 : Ok 1 ⟨#[ch]⟩ := Ok.one (odd_o.2 ch hch)
        have o4 := o1.append o3
        have l1 := o1.1
        have l2 := o2.1
        have l3 := o3.1
        have l4 := o4.1
        repeat walk_at "dn"
        exact ⟨rfl, _, st5, _, _, (o4.append o2).mono (by omega), S5.mono (by omega), rfl⟩
      · repeat walk_at "dn"
        exact ⟨rfl, x, st3, _, _, j2.mono (by omega), S3.mono (by omega), rfl⟩
    · obtain ⟨x, st4, s4, s5, o, S4, rfl⟩ := he
      repeat walk_at "dn"
      refine two_dec (fun w1 => ?_) (fun w1 => ?_)
      · repeat walk_at "dn"
        refine f__tongue ?_
        repeat walk_at "dn"
        refine draw_1 S4 (by omega) (by omega) fun p st5 a5 b5 S5 => ?_
        repeat walk_at "dn"
        refine bx_ix_in a5 (by simpa [tongue] using b5) fun d hd => ?_
        obtain ⟨y, hy, rfl⟩ := List.mem_map.mp hd
        have oy := tongue_ok y hy
        have ly := oy.1
        repeat walk_at "dn"
        refine draw_1 S5 (by omega) (by omega) fun q st6 a6 b6 S6 => ?_
        repeat walk_at "dn"
        refine ix_abc a6 b6 fun sg hsg => ?_
        have os := hsg.ok
        have ls := os.1
        have oa := oy.append os
        have oc := oy.cut none (some (-1))
        repeat walk_at "dn"
        refine draw_1 S6 (by omega) (by omega) fun r st7 a7 b7 S7 => ?_
        repeat walk_at "dn"
        refine bx_ix_in a7 (by simpa using b7) fun d hd => ?_
        have hm : ∃ z, d = .str z ∧ Ok 40 z := by
          simp only [List.mem_cons, List.not_mem_nil, or_false] at hd
          rcases hd with rfl | rfl | rfl | rfl
          · exact ⟨_, rfl, oy.mono (by omega)⟩
          · exact ⟨_, rfl, oc.mono (by omega)⟩
          · exact ⟨_, rfl, oa.mono (by omega)⟩
          · exact ⟨_, rfl, oy.mono (by omega)⟩
        obtain ⟨z, rfl, oz⟩ := hm
        repeat walk_at "dn"
        exact h z st7 oz (S7.mono (by omega))
      · repeat walk_at "dn"
        exact h x st4 (o.mono (by omega)) (S4.mono (by omega))
def Lo (x : Str) : Prop := Ok 8 x ∧ 46 ∉ tl x
theorem nm_lo {x : Str} (h : Nm x) : Lo x := ⟨h.ok, fun z => by have := h.2.2.1 _ z; omega⟩
theorem Lo.cut {x : Str} (h : Lo x) (lo hi : Option Int) : Lo (cutS x lo hi) := ⟨h.1.cut lo hi, fun z => h.2 (cutS_mem z)⟩
theorem spl_first (r : List Nat) : ∀ (l acc : List Nat), 46 ∉ l → spl [46] 0 acc (l ++ 46 :: r) = (acc ++ l) :: spl [46] 0 [] r
  | [], acc, _ => by
    rw [List.nil_append, spl_hit (by simp [pre]), List.append_nil]
    rfl
  | c :: l, acc, h => by
    rw [List.cons_append, spl_miss (by simp [pre]; intro z; exact absurd (z ▸ List.mem_cons_self) h), spl_first r l _ fun z => h (List.mem_cons_of_mem _ z)]
    simp
theorem first_part {x y : Str} (h : Lo x) : ∃ rest, parts (x ++ "." ++ y) = x :: rest := by
  have e := split_spl (x ++ "." ++ y) ⟨#[46]⟩ (by simp [tl]) (kind_ok (sep_ok (by decide)))
  have e2 : tl (x ++ "." ++ y) = tl x ++ 46 :: tl y := by
    rw [tl_append, tl_append, List.append_assoc]
    rfl
  rw [e2, show tl (⟨#[46]⟩ : Str) = [46] from rfl, spl_first _ _ _ h.2] at e
  cases q : Txt.split (x ++ "." ++ y) ⟨#[46]⟩ with
  | nil => rw [q] at e; simp at e
  | cons p rest =>
    rw [q] at e
    have := (List.cons.inj e).1
    have hp : p = x := ext_tl (by simpa using this)
    exact ⟨rest, q.trans (by rw [hp])⟩
theorem dot_in {x y : Str} : strIn "." (x ++ "." ++ y) = true := by
  show strIn ⟨#[46]⟩ _ = true
  rw [strIn1, tl_append, tl_append]
  simp [tl, show ("." : Str).cps = #[46] from rfl]
theorem dot_out {x : Str} (h : Lo x) : strIn "." x = false := by
  show strIn ⟨#[46]⟩ _ = false
  rw [strIn1]
  simpa using h.2
theorem atI_zero {α : Type} {a : α} {l : List α} : atI (a :: l) 0 = some a := by
  have h : (0 : Int) < ((a :: l).length : Nat) := by rw [List.length_cons]; omega
  unfold atI ixN
  rw [if_pos (by omega), if_pos h]
  rfl
theorem f_first {x y : Str} {Q : Sl → Dn.Env → Prop} (hx : Lo x) (hy : y.length ≤ 1000) (h : Q (.sh (.str x)) [.no]) : FRun f_first_name [.sh (.str (x ++ "." ++ y))] Q := by
  obtain ⟨rest, e⟩ := first_part (y := y) hx
  have l := hx.1.1
  have l2 : (x ++ "." ++ y).length = x.length + 1 + y.length := by
    rw [len_append, len_append]
    rfl
  refine frun_fn ?_
  unfold m_first_name
  repeat walk_at "dn"
  refine bx_parts (by omega) ?_
  rw [e]
  repeat walk_at "dn"
  refine bx_ix_lst atI_zero ?_
  repeat walk_at "dn"
  exact h
theorem f_in_rec {x y z : Str} {Q : Sl → Dn.Env → Prop} (hx : Lo x) (hy : y.length ≤ 1000) (h : Q (.sh (.bool (decide (x = z)))) [.no, .no]) : FRun f_in_record [.sh (.str (x ++ "." ++ y)), .sh (.str z)] Q := by
  refine frun_fn ?_
  unfold m_in_record
  repeat walk_at "dn"
  rw [dot_in]
  repeat walk_at "dn"
  refine f_first hx hy ?_
  repeat walk_at "dn"
  exact h
theorem f_in_rec0 {x z : Str} {Q : Sl → Dn.Env → Prop} (hx : Lo x) (h : Q (.sh (.bool false)) [.no, .no]) : FRun f_in_record [.sh (.str x), .sh (.str z)] Q := by
  refine frun_fn ?_
  unfold m_in_record
  repeat walk_at "dn"
  rw [dot_out hx]
  repeat walk_at "dn"
  exact h
theorem f__recs {c : Nat} {st : List D} {ns : List Str} {Q : Sl → Dn.Env → Prop} (hs : St c st) (hc : c ≤ 900000) (hn : ∀ x ∈ ns, Lo x) (h0 : 0 < ns.length) (h1 : ns.length ≤ 100) (h : ∀ st', St (c + 3) st' → Q (.sh (.bool true)) [.ow st', .no]) : FRun f__law_records_right [.ow st, .sh (.list (ns.map PyData.str))] Q := by
  refine frun_fn ?_
  unfold m__law_records_right
  repeat walk_at "dn"
  refine ⟨rfl, Nat.le_of_ble_eq_true rfl, ?_⟩
  refine run_compL _ (fun i ys e => ∃ (ss : List Str) (st' : List D), ys = ss.map PyData.str ∧ ss.length = i ∧ (∀ s ∈ ss, Lo s) ∧ St (c + i) st' ∧ e = [.ow st', .sh (.list (ns.map PyData.str)), .no, .no, .no, .no, .no, .no, .no]) ?_ (fun i d ys e hd hJ => ?_) fun ys e hJ => ?_
  · exact ⟨[], st, rfl, rfl, by simp, hs, rfl⟩
  · obtain ⟨ss, st', rfl, e2, e3, S, rfl⟩ := hJ
    obtain ⟨rfl, hi⟩ := rngD_at hd
    have hi3 : i < 3 := hi
    refine ⟨_, rfl, ?_⟩
    repeat walk_at "dn"
    rw [List.length_map]
    refine draw_1 S (by omega) (by omega) fun n2 st2 a2 b2 S2 => ?_
    repeat walk_at "dn"
    refine bx_ix_in a2 (by rw [List.length_map]; exact b2) fun d hd => ?_
    obtain ⟨y, hy, rfl⟩ := List.mem_map.mp hd
    refine ⟨ss ++ [y], st2, by simp, by simp [e2], fun t ht => ?_, S2, rfl⟩
    rcases List.mem_append.mp ht with q | q
    · exact e3 t q
    · simp at q; subst q; exact hn _ hy
  · obtain ⟨ss, st3, rfl, e2, e3, S3, rfl⟩ := hJ
    have e2' : ss.length = 3 := e2
    match ss, e2', e3 with
    | [x, y, z], _, e3 =>
      have lx := e3 x (by simp)
      have ly := e3 y (by simp)
      have lz := e3 z (by simp)
      have l1 := lx.1.1
      have l2 := ly.1.1
      have l3 := lz.1.1
      have ld : ("." : Str).length = 1 := rfl
      have la : (x ++ "." : Str).length = x.length + 1 := by rw [len_append]; rfl
      repeat walk_at "dn"
      refine f_in_rec (y := y) lx (by omega) ?_
      repeat walk_at "dn"
      refine f_in_rec0 lx ?_
      repeat walk_at "dn"
      refine f_in_rec (y := z) lx (by omega) ?_
      repeat walk_at "dn"
      exact h st3 S3
end K01
namespace K01
open PySem PySem.Spec PyProof.Rows L2 Dn TL
theorem things {δ : Dn.Env} {Q : D → Dn.Env → Prop} {d : D} {i : Nat} (hδ : δ[i]? = some (.sh d)) (hd : isStr d = false) (hn : noDict d = true) (h : Q (.bool false) δ) : Dn.Run (mCallE 1 [] f_is_name [.e (mVar i)]) δ Q := by
  refine run_callE ?_
  refine run_agE ?_
  refine run_var hδ ?_
  refine run_ag0 ?_
  refine ⟨⟨rfl, rfl, of_decide_eq_true rfl, rfl⟩, ?_⟩
  exact f_is_name_no hd hn ⟨_, rfl, h⟩
theorem things' {δ : Dn.Env} {Q : D → Dn.Env → Prop} {d : D} {i : Nat} (hδ : δ[i]? = some (.sh d)) (hd : isStr d = false) (hn : noDict d = true) (h : Q (.bool false) δ) : Dn.Run (mCallE 1 [] f_is_box [.e (mVar i)]) δ Q := by
  refine run_callE ?_
  refine run_agE ?_
  refine run_var hδ ?_
  refine run_ag0 ?_
  refine ⟨⟨rfl, rfl, of_decide_eq_true rfl, rfl⟩, ?_⟩
  exact f_is_box_no hd hn ⟨_, rfl, h⟩
theorem good : Good := by
  intro ns hns
  suffices H : FRun f_law [.sh (.list (ns.map PyData.int))] fun s _ => s = .sh (.bool true) by
    obtain ⟨s, as', e, rfl⟩ := H.to
    exact ⟨as', e⟩
  refine frun_fn ?_
  unfold m_law
  refine run_seqP (fun e => ∃ z, e = [.sh (.list (ns.map PyData.int)), z, .no, .no, .no, .no, .no, .no, .no]) ?_ fun e he => ?_
  · refine run_for ?_
    repeat ((fail_if_success (with_reducible apply run_forL_cons)); walk_at "dn")
    refine run_forL _ (fun i e => ∃ z, e = [.sh (.list (ns.map PyData.int)), z, .no, .no, .no, .no, .no, .no, .no]) ⟨_, rfl⟩ (fun i d e hd hI => ?_) fun e hI => ⟨rfl, hI⟩
    obtain ⟨z, rfl⟩ := hI
    have hd' := List.mem_of_getElem? hd
    have hk : isStr d = false ∧ noDict d = true := by
      simp only [List.mem_cons, List.not_mem_nil, or_false] at hd'
      rcases hd' with rfl | rfl | rfl | rfl | rfl | rfl | rfl | rfl <;> exact ⟨rfl, rfl⟩
    refine ⟨_, rfl, ?_⟩
    refine run_ifS ?_
    refine run_orT ?_
    refine run_test ?_
    refine run_bin ?_
    refine things rfl hk.1 hk.2 ?_
    repeat ((fail_if_success (with_reducible apply run_callE)); walk_at "dn")
    refine things' rfl hk.1 hk.2 ?_
    repeat walk_at "dn"
    exact ⟨_, rfl⟩
  · obtain ⟨z, rfl⟩ := he
    repeat ((fail_if_success (with_reducible apply run_forL_cons)); walk_at "dn")
    refine run_forL _ (fun i e => ∃ z1 z2 z3 z4 z5 z6 z7 z8, e = [.sh (.list (ns.map PyData.int)), z1, z2, z3, z4, z5, z6, z7, z8]) ⟨_, _, _, _, _, _, _, _, rfl⟩ (fun i d e hd hI => ?_) fun e hI => ?_
    · obtain ⟨z1, z2, z3, z4, z5, z6, z7, z8, rfl⟩ := hI
      obtain ⟨rfl, hi⟩ := rngD_at hd
      clear hd hi
      refine ⟨_, rfl, ?_⟩
      repeat walk_at "dn"
      refine deck_1 (by omega) fun st0 S0 => ?_
      repeat walk_at "dn"
      refine f__text S0 (by omega) fun x st1 ox S1 => ?_
      repeat walk_at "dn"
      refine f__text S1 (by omega) fun y st2 oy S2 => ?_
      repeat walk_at "dn"
      refine draw_1 S2 (by omega) (by omega) fun q st3 a3 b3 S3 => ?_
      repeat walk_at "dn"
      refine bx_ix_in a3 (by simpa using b3) fun d hd => ?_
      obtain ⟨t, rfl, ot⟩ : ∃ t, d = .str t ∧ Ok 2 t := by
        simp only [List.mem_cons, List.not_mem_nil, or_false] at hd
        rcases hd with rfl | rfl | rfl | rfl <;> exact ⟨_, rfl, Ok.lit _ _ (by decide)⟩
      have od : Ok 1 "." := Ok.lit _ _ (by decide)
      have a1 := ox.append ot
      have a2 := a1.append oy
      have a4 := ox.append od
      have a5 := od.append ox
      have a6 := a4.append oy
      have a7 := a6.append od
      have a8 := a7.append ox
      have m0 := ox.1
      have m1 := oy.1
      have m2 := ot.1
      have m3 := od.1
      have l1 := a1.1
      have l2 := a2.1
      have l4 := a4.1
      have l5 := a5.1
      have l6 := a6.1
      have l7 := a7.1
      have l8 := a8.1
      refine seq_nx ?_
      refine run_seqP (fun e => ∃ z7, e = [.sh (.list (ns.map PyData.int)), z1, .sh (.int (0 + (i : Int))), .ow st3, .sh (.str x), .sh (.str y), .sh (.str t), z7, z8]) ?_ fun e he => ?_
      · refine run_for ?_
        repeat ((fail_if_success (with_reducible apply run_forL_cons)); walk_at "dn")
        refine run_forL _ (fun _ e => ∃ z7, e = [.sh (.list (ns.map PyData.int)), z1, .sh (.int (0 + (i : Int))), .ow st3, .sh (.str x), .sh (.str y), .sh (.str t), z7, z8]) ⟨_, rfl⟩ (fun i d e hd hI => ?_) fun e hI => ⟨rfl, hI⟩
        obtain ⟨z7, rfl⟩ := hI
        obtain ⟨w, rfl, ow⟩ : ∃ w, d = .str w ∧ Ok 200 w := by
          have hd' := List.mem_of_getElem? hd
          simp only [List.mem_cons, List.not_mem_nil, or_false] at hd'
          rcases hd' with rfl | rfl | rfl | rfl | rfl | rfl
          · exact ⟨_, rfl, ox.mono (by omega)⟩
          · exact ⟨_, rfl, oy.mono (by omega)⟩
          · exact ⟨_, rfl, a2.mono (by omega)⟩
          · exact ⟨_, rfl, a4.mono (by omega)⟩
          · exact ⟨_, rfl, a5.mono (by omega)⟩
          · exact ⟨_, rfl, a8.mono (by omega)⟩
        refine ⟨_, rfl, ?_⟩
        repeat walk_at "dn"
        refine f__right ow (by omega) ?_
        repeat walk_at "dn"
        exact ⟨_, rfl⟩
      · obtain ⟨z7, rfl⟩ := he
        clear a1 a2 a4 a5 a6 a7 a8 l1 l2 l4 l5 l6 l7 l8
        repeat walk_at "dn"
        refine names_1 S3 (by omega) (by omega) fun xs st4 hx hl S4 => ?_
        match xs, hl, hx with
        | [p, q, r], _, hx =>
          have op := nm_lo (hx p (by simp))
          have oq := nm_lo (hx q (by simp))
          have or_ := nm_lo (hx r (by simp))
          have lp := op.1.1
          have lq := oq.1.1
          repeat walk_at "dn"
          refine f__recs (ns := [p, q, r, cutS p none (some 2), cutS p none (some 1), cutS q none (some (-1)), "same", "way", "ways", "wa"]) S4 (by omega) ?_ (by simp) (by simp) fun st5 S5 => ?_
          · intro x hx
            simp only [List.mem_cons, List.not_mem_nil, or_false] at hx
            rcases hx with rfl | rfl | rfl | rfl | rfl | rfl | rfl | rfl | rfl | rfl
            · exact op
            · exact oq
            · exact or_
            · exact op.cut _ _
            · exact op.cut _ _
            · exact oq.cut _ _
            · exact ⟨Ok.lit _ _ (by decide), by decide⟩
            · exact ⟨Ok.lit _ _ (by decide), by decide⟩
            · exact ⟨Ok.lit _ _ (by decide), by decide⟩
            · exact ⟨Ok.lit _ _ (by decide), by decide⟩
          · repeat walk_at "dn"
            exact ⟨_, _, _, _, _, _, _, _, rfl⟩
    · obtain ⟨z1, z2, z3, z4, z5, z6, z7, z8, rfl⟩ := hI
      repeat walk_at "dn"
      refine ⟨fun z => ?_, fun s z => ?_, by simp, by simp⟩
      · cases z
      · cases z; rfl
end K01
namespace K01
open PySem PySem.Spec PyProof.Rows L2 Dn
def topS (i : Nat) : Stmt := PySem.Challenge.pw_wipeways_k01_names_and_boxes.main.body.getD i (.Pass ⟨0, 0, 0, 0⟩)
abbrev s_is_name : Stmt := topS 4
abbrev N_is_name : List Str := ["thing", "sign"]
theorem sc_is_name : FnScope N_is_name ["thing"] (defScope s_is_name) := ⟨rfl, rfl, rfl, by decide +kernel, rfl, by decide +kernel, by decide +kernel⟩
abbrev s_first_name : Stmt := topS 6
abbrev N_first_name : List Str := ["box"]
theorem sc_first_name : FnScope N_first_name ["box"] (defScope s_first_name) := ⟨rfl, rfl, rfl, by decide +kernel, rfl, by decide +kernel, by decide +kernel⟩
abbrev s__law_deck : Stmt := topS 9
abbrev N__law_deck : List Str := ["_law_script", "_law_k", "_law_cell"]
theorem sc__law_deck : FnScope N__law_deck ["_law_script", "_law_k"] (defScope s__law_deck) := ⟨rfl, rfl, rfl, by decide +kernel, rfl, by decide +kernel, by decide +kernel⟩
abbrev s__law_draw : Stmt := topS 10
abbrev N__law_draw : List Str := ["_law_deck_here", "_law_many", "_law_number", "_law_got"]
theorem sc__law_draw : FnScope N__law_draw ["_law_deck_here", "_law_many"] (defScope s__law_draw) := ⟨rfl, rfl, rfl, by decide +kernel, rfl, by decide +kernel, by decide +kernel⟩
abbrev s__law_tongue : Stmt := topS 12
abbrev N__law_tongue : List Str := ["_law_text_here"]
theorem sc__law_tongue : FnScope N__law_tongue [] (defScope s__law_tongue) := ⟨rfl, rfl, rfl, by decide +kernel, rfl, by decide +kernel, by decide +kernel⟩
abbrev s_is_box : Stmt := topS 5
abbrev N_is_box : List Str := ["thing", "parts", "part"]
theorem sc_is_box : FnScope N_is_box ["thing"] (defScope s_is_box) := ⟨rfl, rfl, rfl, by decide +kernel, rfl, by decide +kernel, by decide +kernel⟩
abbrev s_in_record : Stmt := topS 7
abbrev N_in_record : List Str := ["box", "name"]
theorem sc_in_record : FnScope N_in_record ["box", "name"] (defScope s_in_record) := ⟨rfl, rfl, rfl, by decide +kernel, rfl, by decide +kernel, by decide +kernel⟩
abbrev s__law_names : Stmt := topS 11
abbrev N__law_names : List Str := ["_law_deck_here", "_law_many", "_law_letters", "_law_base", "_law_at", "_law_first", "_law_longer", "_law_got", "_law_k"]
theorem sc__law_names : FnScope N__law_names ["_law_deck_here", "_law_many"] (defScope s__law_names) := ⟨rfl, rfl, rfl, by decide +kernel, rfl, by decide +kernel, by decide +kernel⟩
abbrev s__law_text : Stmt := topS 13
abbrev N__law_text : List Str := ["_law_deck_here", "_law_letters", "_law_text_here", "_law_way", "_law_odd", "_law_at", "_law_k"]
theorem sc__law_text : FnScope N__law_text ["_law_deck_here"] (defScope s__law_text) := ⟨rfl, rfl, rfl, by decide +kernel, rfl, by decide +kernel, by decide +kernel⟩
abbrev s__law_is_name : Stmt := topS 14
abbrev N__law_is_name : List Str := ["_law_text_here", "_law_sign"]
theorem sc__law_is_name : FnScope N__law_is_name ["_law_text_here"] (defScope s__law_is_name) := ⟨rfl, rfl, rfl, by decide +kernel, rfl, by decide +kernel, by decide +kernel⟩
abbrev s__law_is_box : Stmt := topS 15
abbrev N__law_is_box : List Str := ["_law_text_here", "_law_parts", "_law_part"]
theorem sc__law_is_box : FnScope N__law_is_box ["_law_text_here"] (defScope s__law_is_box) := ⟨rfl, rfl, rfl, by decide +kernel, rfl, by decide +kernel, by decide +kernel⟩
abbrev s__law_records_right : Stmt := topS 17
abbrev N__law_records_right : List Str := ["_law_deck_here", "_law_names_here", "_law_one", "_law_other", "_law_third", "_law_box", "_law_due", "_law_found", "_law_k"]
theorem sc__law_records_right : FnScope N__law_records_right ["_law_deck_here", "_law_names_here"] (defScope s__law_records_right) := ⟨rfl, rfl, rfl, by decide +kernel, rfl, by decide +kernel, by decide +kernel⟩
abbrev s__law_right : Stmt := topS 16
abbrev N__law_right : List Str := ["_law_text_here", "_law_found", "_law_due"]
theorem sc__law_right : FnScope N__law_right ["_law_text_here"] (defScope s__law_right) := ⟨rfl, rfl, rfl, by decide +kernel, rfl, by decide +kernel, by decide +kernel⟩
abbrev s_law : Stmt := topS 18
abbrev N_law : List Str := ["_law_script", "_law_thing", "_law_k", "_law_deck_here", "_law_one", "_law_other", "_law_dots", "_law_text_here", "_law_names_here"]
theorem sc_law : FnScope N_law ["_law_script"] (defScope s_law) := ⟨rfl, rfl, rfl, by decide +kernel, rfl, by decide +kernel, by decide +kernel⟩
structure Tx (K : Frag) (mg : Str → Option Value) where
  a_is_name : Addr
  d_is_name : FuncData
  F_is_name : Fun K "is_name" "is_name" s_is_name a_is_name d_is_name
  b_is_name : Binds K d_is_name ["thing"] []
  g_is_name : mg "is_name" = some (.ref a_is_name)
  a_first_name : Addr
  d_first_name : FuncData
  F_first_name : Fun K "first_name" "first_name" s_first_name a_first_name d_first_name
  b_first_name : Binds K d_first_name ["box"] []
  g_first_name : mg "first_name" = some (.ref a_first_name)
  a__law_deck : Addr
  d__law_deck : FuncData
  F__law_deck : Fun K "_law_deck" "_law_deck" s__law_deck a__law_deck d__law_deck
  b__law_deck : Binds K d__law_deck ["_law_script", "_law_k"] []
  g__law_deck : mg "_law_deck" = some (.ref a__law_deck)
  a__law_draw : Addr
  d__law_draw : FuncData
  F__law_draw : Fun K "_law_draw" "_law_draw" s__law_draw a__law_draw d__law_draw
  b__law_draw : Binds K d__law_draw ["_law_deck_here", "_law_many"] []
  g__law_draw : mg "_law_draw" = some (.ref a__law_draw)
  a__law_tongue : Addr
  d__law_tongue : FuncData
  F__law_tongue : Fun K "_law_tongue" "_law_tongue" s__law_tongue a__law_tongue d__law_tongue
  b__law_tongue : Binds K d__law_tongue [] []
  g__law_tongue : mg "_law_tongue" = some (.ref a__law_tongue)
  a_is_box : Addr
  d_is_box : FuncData
  F_is_box : Fun K "is_box" "is_box" s_is_box a_is_box d_is_box
  b_is_box : Binds K d_is_box ["thing"] []
  g_is_box : mg "is_box" = some (.ref a_is_box)
  a_in_record : Addr
  d_in_record : FuncData
  F_in_record : Fun K "in_record" "in_record" s_in_record a_in_record d_in_record
  b_in_record : Binds K d_in_record ["box", "name"] []
  g_in_record : mg "in_record" = some (.ref a_in_record)
  a__law_names : Addr
  d__law_names : FuncData
  F__law_names : Fun K "_law_names" "_law_names" s__law_names a__law_names d__law_names
  b__law_names : Binds K d__law_names ["_law_deck_here", "_law_many"] []
  g__law_names : mg "_law_names" = some (.ref a__law_names)
  a__law_text : Addr
  d__law_text : FuncData
  F__law_text : Fun K "_law_text" "_law_text" s__law_text a__law_text d__law_text
  b__law_text : Binds K d__law_text ["_law_deck_here"] []
  g__law_text : mg "_law_text" = some (.ref a__law_text)
  a__law_is_name : Addr
  d__law_is_name : FuncData
  F__law_is_name : Fun K "_law_is_name" "_law_is_name" s__law_is_name a__law_is_name d__law_is_name
  b__law_is_name : Binds K d__law_is_name ["_law_text_here"] []
  g__law_is_name : mg "_law_is_name" = some (.ref a__law_is_name)
  a__law_is_box : Addr
  d__law_is_box : FuncData
  F__law_is_box : Fun K "_law_is_box" "_law_is_box" s__law_is_box a__law_is_box d__law_is_box
  b__law_is_box : Binds K d__law_is_box ["_law_text_here"] []
  g__law_is_box : mg "_law_is_box" = some (.ref a__law_is_box)
  a__law_records_right : Addr
  d__law_records_right : FuncData
  F__law_records_right : Fun K "_law_records_right" "_law_records_right" s__law_records_right a__law_records_right d__law_records_right
  b__law_records_right : Binds K d__law_records_right ["_law_deck_here", "_law_names_here"] []
  g__law_records_right : mg "_law_records_right" = some (.ref a__law_records_right)
  a__law_right : Addr
  d__law_right : FuncData
  F__law_right : Fun K "_law_right" "_law_right" s__law_right a__law_right d__law_right
  b__law_right : Binds K d__law_right ["_law_text_here"] []
  g__law_right : mg "_law_right" = some (.ref a__law_right)
  a_law : Addr
  d_law : FuncData
  F_law : Fun K "law" "law" s_law a_law d_law
  b_law : Binds K d_law ["_law_script"] []
  g_law : mg "law" = some (.ref a_law)
  z_all : mg "all" = none
  z_bool : mg "bool" = none
  z_int : mg "int" = none
  z_isinstance : mg "isinstance" = none
  z_len : mg "len" = none
  z_max : mg "max" = none
  z_min : mg "min" = none
  z_range : mg "range" = none
  z_str : mg "str" = none
  u_LETTERS : Value
  x_LETTERS : V
  g_LETTERS : mg "LETTERS" = some u_LETTERS
  v_LETTERS : RelV x_LETTERS u_LETTERS
  r_LETTERS : ∀ H, Rp K H x_LETTERS c_LETTERS
  u_LONGEST : Value
  x_LONGEST : V
  g_LONGEST : mg "LONGEST" = some u_LONGEST
  v_LONGEST : RelV x_LONGEST u_LONGEST
  r_LONGEST : ∀ H, Rp K H x_LONGEST c_LONGEST
  u_TONGUE : Value
  x_TONGUE : V
  g_TONGUE : mg "TONGUE" = some u_TONGUE
  v_TONGUE : RelV x_TONGUE u_TONGUE
  r_TONGUE : ∀ H, Rp K H x_TONGUE c_TONGUE
section
variable {P : Program} {w : World} {K : Frag} {mg : Str → Option Value} {base : Heap}
theorem ok_is_name (T : Tx K mg) : FnOk P w K mg base CX0 1 T.a_is_name T.d_is_name ["thing"] (spF K 1 [] f_is_name) := by
  have sc := sc_is_name
  refine fn_J T.F_is_name sc rfl rfl (by decide) fun cdv A outer s H E hr => ?_
  exact (jss_cons (js_if (PW.pt (jw_or (jt_not (jt_val (je_isi (T := "str") (T' := "str") (je_var (i := 0) rfl (by first | exact Or.inl rfl | exact Or.inr (Or.inl rfl) | exact Or.inr (Or.inr rfl))) (by rfl) T.z_isinstance (by rfl) T.z_str (by decide +kernel)))) (jw_or (jt_not (jt_chain op_leA op_leA ob_ord os_ord je_int (je_callB call_lenA cs_len (by rfl) T.z_len (by decide +kernel) (ja_e (je_var (i := 0) rfl (by first | exact Or.inl rfl | exact Or.inr (Or.inl rfl) | exact Or.inr (Or.inr rfl))) ja_nil)) (je_glob (by rfl) T.g_LONGEST T.v_LONGEST T.r_LONGEST))) (jw_or1 (jt_cmp op_inA os_in (je_var (i := 0) rfl (by first | exact Or.inl rfl | exact Or.inr (Or.inl rfl) | exact Or.inr (Or.inr rfl))) (je_glob (by rfl) T.g_TONGUE T.v_TONGUE T.r_TONGUE) (by rfl))))))
    (jss_one (js_ret je_bl))
    jss_nil)
    (jss_one (js_ret (je_callB (cr_all rfl) (cs_bools (f := fun bs => bs.all id)) (by rfl) T.z_all (by decide +kernel) (ja_e (je_fr (jo_comp (own := [("sign", 1)]) (by decide) (by decide) rfl sc.nd (ji_any (je_var (i := 0) rfl (by first | exact Or.inl rfl | exact Or.inr (Or.inl rfl) | exact Or.inr (Or.inr rfl)))) (blkOk_by (N := N_is_name) (sc := defScope s_is_name) (by decide +kernel)) (fun _ _ _ _ _ => (jg_name (i := 1) (by decide) sc.nd rfl (by first | exact Or.inl rfl | exact Or.inr rfl))) (fun _ _ _ _ _ => jts_nil) (fun _ _ _ _ _ => (je_cmp op_inA os_in (je_var (i := 1) rfl (by first | exact Or.inl rfl | exact Or.inr (Or.inl rfl) | exact Or.inr (Or.inr rfl))) (je_glob (by rfl) T.g_LETTERS T.v_LETTERS T.r_LETTERS) (by rfl))))) ja_nil)))))
theorem ok_first_name (T : Tx K mg) : FnOk P w K mg base CX0 1 T.a_first_name T.d_first_name ["box"] (spF K 1 [] f_first_name) := by
  have sc := sc_first_name
  refine fn_J T.F_first_name sc rfl rfl (by decide) fun cdv A outer s H E hr => ?_
  exact (jss_one (js_ret (je_ix (je_m1 PySem.F.slot_str_split PySem.F.type_str_split mt_split ms_split (je_var (i := 0) rfl (by first | exact Or.inl rfl | exact Or.inr (Or.inl rfl) | exact Or.inr (Or.inr rfl))) je_str) je_int (fun _ _ => rfl))))
theorem ok__law_deck (T : Tx K mg) : FnOk P w K mg base CX0 1 T.a__law_deck T.d__law_deck ["_law_script", "_law_k"] (spF K 2 [] f__law_deck) := by
  have sc := sc__law_deck
  refine fn_J T.F__law_deck sc rfl rfl (by decide) fun cdv A outer s H E hr => ?_
  exact (jss_cons (js_set (i := 2) (by decide) sc.nd rfl (by first | exact Or.inl rfl | exact Or.inr rfl) je_int)
    (jss_cons (js_if (jt_cmp op_ltA os_ord (je_var (i := 1) rfl (by first | exact Or.inl rfl | exact Or.inr (Or.inl rfl) | exact Or.inr (Or.inr rfl))) (je_callB call_lenA cs_len (by rfl) T.z_len (by decide +kernel) (ja_e (je_var (i := 0) rfl (by first | exact Or.inl rfl | exact Or.inr (Or.inl rfl) | exact Or.inr (Or.inr rfl))) ja_nil)) (nomark _))
    (jss_one (js_set (i := 2) (by decide) sc.nd rfl (by first | exact Or.inl rfl | exact Or.inr rfl) (je_ix (je_var (i := 0) rfl (by first | exact Or.inl rfl | exact Or.inr (Or.inl rfl) | exact Or.inr (Or.inr rfl))) (je_var (i := 1) rfl (by first | exact Or.inl rfl | exact Or.inr (Or.inl rfl) | exact Or.inr (Or.inr rfl))) (fun _ _ => rfl))))
    jss_nil)
    (jss_one (js_retO (jo_lst (ja_e (je_bin op_mulA os_mul (je_var (i := 2) rfl (by first | exact Or.inl rfl | exact Or.inr (Or.inl rfl) | exact Or.inr (Or.inr rfl))) (je_callTy call_int1 cs_int (by rfl) T.z_int (by decide +kernel) (ja_e (je_cmp op_geA os_ord (je_var (i := 2) rfl (by first | exact Or.inl rfl | exact Or.inr (Or.inl rfl) | exact Or.inr (Or.inr rfl))) (je_bin op_pow os_pow je_int je_int) (nomark _)) ja_nil))) (ja_e (je_bin op_mod os_mod (je_var (i := 2) rfl (by first | exact Or.inl rfl | exact Or.inr (Or.inl rfl) | exact Or.inr (Or.inr rfl))) je_int) (ja_e je_int ja_nil))))))))
theorem ok__law_draw (T : Tx K mg) : FnOk P w K mg base CX0 1 T.a__law_draw T.d__law_draw ["_law_deck_here", "_law_many"] (spF K 2 [0] f__law_draw) := by
  have sc := sc__law_draw
  refine fn_J T.F__law_draw sc rfl rfl (by decide) fun cdv A outer s H E hr => ?_
  exact (jss_cons (js_if (jt_cmp op_gtA os_ord (je_ixO (i := 0) rfl (by first | exact Or.inl rfl | exact Or.inr (Or.inl rfl) | exact Or.inr (Or.inr rfl)) je_int (fun _ _ => rfl)) je_int (nomark _))
    (jss_cons (js_set (i := 3) (by decide) sc.nd rfl (by first | exact Or.inl rfl | exact Or.inr rfl) (je_bin op_mod os_mod (je_ixO (i := 0) rfl (by first | exact Or.inl rfl | exact Or.inr (Or.inl rfl) | exact Or.inr (Or.inr rfl)) je_int (fun _ _ => rfl)) (je_var (i := 1) rfl (by first | exact Or.inl rfl | exact Or.inr (Or.inl rfl) | exact Or.inr (Or.inr rfl)))))
    (jss_cons (js_setIx (k := 0) rfl (by first | exact Or.inl rfl | exact Or.inr (Or.inl rfl) | exact Or.inr (Or.inr rfl)) (je_bin op_fdiv os_div (je_ixO (i := 0) rfl (by first | exact Or.inl rfl | exact Or.inr (Or.inl rfl) | exact Or.inr (Or.inr rfl)) je_int (fun _ _ => rfl)) (je_var (i := 1) rfl (by first | exact Or.inl rfl | exact Or.inr (Or.inl rfl) | exact Or.inr (Or.inr rfl)))) je_int)
    (jss_one (js_ret (je_var (i := 3) rfl (by first | exact Or.inl rfl | exact Or.inr (Or.inl rfl) | exact Or.inr (Or.inr rfl)))))))
    jss_nil)
    (jss_cons (js_setIx (k := 0) rfl (by first | exact Or.inl rfl | exact Or.inr (Or.inl rfl) | exact Or.inr (Or.inr rfl)) (je_bin op_addA os_add (je_ixO (i := 0) rfl (by first | exact Or.inl rfl | exact Or.inr (Or.inl rfl) | exact Or.inr (Or.inr rfl)) je_int (fun _ _ => rfl)) je_int) je_int)
    (jss_cons (js_set (i := 2) (by decide) sc.nd rfl (by first | exact Or.inl rfl | exact Or.inr rfl) (je_bin op_mod os_mod (je_bin op_mulA os_mul (je_bin op_addA os_add (je_bin op_addA os_add (je_ixO (i := 0) rfl (by first | exact Or.inl rfl | exact Or.inr (Or.inl rfl) | exact Or.inr (Or.inr rfl)) je_int (fun _ _ => rfl)) (je_bin op_mulA os_mul (je_bin op_mulA os_mul je_int (je_ixO (i := 0) rfl (by first | exact Or.inl rfl | exact Or.inr (Or.inl rfl) | exact Or.inr (Or.inr rfl)) je_int (fun _ _ => rfl))) (je_ixO (i := 0) rfl (by first | exact Or.inl rfl | exact Or.inr (Or.inl rfl) | exact Or.inr (Or.inr rfl)) je_int (fun _ _ => rfl)))) je_int) je_int) je_int))
    (jss_one (js_ret (je_bin op_mod os_mod (je_bin op_fdiv os_div (je_bin op_mod os_mod (je_bin op_mulA os_mul (je_var (i := 2) rfl (by first | exact Or.inl rfl | exact Or.inr (Or.inl rfl) | exact Or.inr (Or.inr rfl))) (je_bin op_addA os_add (je_var (i := 2) rfl (by first | exact Or.inl rfl | exact Or.inr (Or.inl rfl) | exact Or.inr (Or.inr rfl))) je_int)) je_int) je_int) (je_var (i := 1) rfl (by first | exact Or.inl rfl | exact Or.inr (Or.inl rfl) | exact Or.inr (Or.inr rfl)))))))))
theorem ok__law_tongue (T : Tx K mg) : FnOk P w K mg base CX0 1 T.a__law_tongue T.d__law_tongue [] (spF K 0 [] f__law_tongue) := by
  have sc := sc__law_tongue
  refine fn_J T.F__law_tongue sc rfl rfl (by decide) fun cdv A outer s H E hr => ?_
  exact (jss_cons (js_set (i := 0) (by decide) sc.nd rfl (by first | exact Or.inl rfl | exact Or.inr rfl) je_str)
    (jss_one (js_ret (je_m1 PySem.F.slot_str_split PySem.F.type_str_split mt_split ms_split (je_var (i := 0) rfl (by first | exact Or.inl rfl | exact Or.inr (Or.inl rfl) | exact Or.inr (Or.inr rfl))) je_str))))
theorem ok_is_box (T : Tx K mg) : FnOk P w K mg base CX0 2 T.a_is_box T.d_is_box ["thing"] (spF K 1 [] f_is_box) := by
  have sc := sc_is_box
  refine fn_J T.F_is_box sc rfl rfl (by decide) fun cdv A outer s H E hr => ?_
  exact (jss_cons (js_if (jt_not (jt_val (je_isi (T := "str") (T' := "str") (je_var (i := 0) rfl (by first | exact Or.inl rfl | exact Or.inr (Or.inl rfl) | exact Or.inr (Or.inr rfl))) (by rfl) T.z_isinstance (by rfl) T.z_str (by decide +kernel))))
    (jss_one (js_ret je_bl))
    jss_nil)
    (jss_cons (js_set (i := 1) (by decide) sc.nd rfl (by first | exact Or.inl rfl | exact Or.inr rfl) (je_m1 PySem.F.slot_str_split PySem.F.type_str_split mt_split ms_split (je_var (i := 0) rfl (by first | exact Or.inl rfl | exact Or.inr (Or.inl rfl) | exact Or.inr (Or.inr rfl))) je_str))
    (jss_one (js_ret (je_and (je_cmp op_leA os_ord (je_callB call_lenA cs_len (by rfl) T.z_len (by decide +kernel) (ja_e (je_var (i := 1) rfl (by first | exact Or.inl rfl | exact Or.inr (Or.inl rfl) | exact Or.inr (Or.inr rfl))) ja_nil)) je_int (nomark _)) (je_one (je_callB (cr_all rfl) (cs_bools (f := fun bs => bs.all id)) (by rfl) T.z_all (by decide +kernel) (ja_e (je_fr (jo_comp (own := [("part", 2)]) (by decide) (by decide) rfl sc.nd (ji_any (je_var (i := 1) rfl (by first | exact Or.inl rfl | exact Or.inr (Or.inl rfl) | exact Or.inr (Or.inr rfl)))) (blkOk_by (N := N_is_box) (sc := defScope s_is_box) (by decide +kernel)) (fun _ _ _ _ _ => (jg_name (i := 2) (by decide) sc.nd rfl (by first | exact Or.inl rfl | exact Or.inr rfl))) (fun _ _ _ _ _ => jts_nil) (fun _ _ _ _ _ => (je_call (ok_is_name T) (hr.mono (by decide)) (by rfl) T.g_is_name T.F_is_name.kp T.b_is_name (ja_e (je_var (i := 2) rfl (by first | exact Or.inl rfl | exact Or.inr (Or.inl rfl) | exact Or.inr (Or.inr rfl))) ja_nil))))) ja_nil))))))))
theorem ok_in_record (T : Tx K mg) : FnOk P w K mg base CX0 2 T.a_in_record T.d_in_record ["box", "name"] (spF K 2 [] f_in_record) := by
  have sc := sc_in_record
  refine fn_J T.F_in_record sc rfl rfl (by decide) fun cdv A outer s H E hr => ?_
  exact (jss_one (js_ret (je_and (je_cmp op_inA os_in je_str (je_var (i := 0) rfl (by first | exact Or.inl rfl | exact Or.inr (Or.inl rfl) | exact Or.inr (Or.inr rfl))) (by rfl)) (je_one (je_cmp (op_eqA hr.units) os_eq (je_call (ok_first_name T) (hr.mono (by decide)) (by rfl) T.g_first_name T.F_first_name.kp T.b_first_name (ja_e (je_var (i := 0) rfl (by first | exact Or.inl rfl | exact Or.inr (Or.inl rfl) | exact Or.inr (Or.inr rfl))) ja_nil)) (je_var (i := 1) rfl (by first | exact Or.inl rfl | exact Or.inr (Or.inl rfl) | exact Or.inr (Or.inr rfl))) (nomark _))))))
theorem ok__law_names (T : Tx K mg) : FnOk P w K mg base CX0 2 T.a__law_names T.d__law_names ["_law_deck_here", "_law_many"] (spF K 2 [0] f__law_names) := by
  have sc := sc__law_names
  refine fn_J T.F__law_names sc rfl rfl (by decide) fun cdv A outer s H E hr => ?_
  exact (jss_cons (js_set (i := 2) (by decide) sc.nd rfl (by first | exact Or.inl rfl | exact Or.inr rfl) je_str)
    (jss_cons (js_lcO (i := 3) (own := [("_law_k", 8)]) (by decide) (by decide) (by decide) rfl sc.nd rfl rfl (sw_true rfl rfl rfl (by decide +kernel)) (ji_range1 (by rfl) T.z_range (je_bin op_addA os_add je_int (je_call (ok__law_draw T) (hr.mono (by decide)) (by rfl) T.g__law_draw T.F__law_draw.kp T.b__law_draw (ja_o (i := 0) rfl (by first | exact Or.inl rfl | exact Or.inr (Or.inl rfl) | exact Or.inr (Or.inr rfl)) (ja_e je_int ja_nil))))) (blkOk_by (N := N__law_names) (sc := defScope s__law_names) (by decide +kernel)) (fun _ _ _ _ _ => (jg_name (i := 8) (by decide) sc.nd rfl (by first | exact Or.inl rfl | exact Or.inr rfl))) (fun _ _ _ _ _ => jts_nil) (fun _ _ _ _ _ => (je_ix (je_var (i := 2) rfl (by first | exact Or.inl rfl | exact Or.inr (Or.inl rfl) | exact Or.inr (Or.inr rfl))) (je_call (ok__law_draw T) (hr.mono (by decide)) (by rfl) T.g__law_draw T.F__law_draw.kp T.b__law_draw (ja_o (i := 0) rfl (by first | exact Or.inl rfl | exact Or.inr (Or.inl rfl) | exact Or.inr (Or.inr rfl)) (ja_e je_int ja_nil))) (fun _ _ => rfl))))
    (jss_cons (js_set (i := 4) (by decide) sc.nd rfl (by first | exact Or.inl rfl | exact Or.inr rfl) (je_call (ok__law_draw T) (hr.mono (by decide)) (by rfl) T.g__law_draw T.F__law_draw.kp T.b__law_draw (ja_o (i := 0) rfl (by first | exact Or.inl rfl | exact Or.inr (Or.inl rfl) | exact Or.inr (Or.inr rfl)) (ja_e (je_callBO (i := 3) call_lenA cs_len (by rfl) T.z_len (by decide +kernel) rfl (by first | exact Or.inl rfl | exact Or.inr (Or.inl rfl) | exact Or.inr (Or.inr rfl))) ja_nil))))
    (jss_cons (js_set (i := 5) (by decide) sc.nd rfl (by first | exact Or.inl rfl | exact Or.inr rfl) (je_call (ok__law_draw T) (hr.mono (by decide)) (by rfl) T.g__law_draw T.F__law_draw.kp T.b__law_draw (ja_o (i := 0) rfl (by first | exact Or.inl rfl | exact Or.inr (Or.inl rfl) | exact Or.inr (Or.inr rfl)) (ja_e je_int ja_nil))))
    (jss_cons (js_set (i := 6) (by decide) sc.nd rfl (by first | exact Or.inl rfl | exact Or.inr rfl) (je_call (ok__law_draw T) (hr.mono (by decide)) (by rfl) T.g__law_draw T.F__law_draw.kp T.b__law_draw (ja_o (i := 0) rfl (by first | exact Or.inl rfl | exact Or.inr (Or.inl rfl) | exact Or.inr (Or.inr rfl)) (ja_e je_int ja_nil))))
    (jss_cons (js_setO (i := 7) (by decide) sc.nd rfl (by first | exact Or.inl rfl | exact Or.inr rfl) (jo_lst ja_nil))
    (jss_cons (js_for PassesOwn.never rfl (ji_range1 (by rfl) T.z_range (je_var (i := 1) rfl (by first | exact Or.inl rfl | exact Or.inr (Or.inl rfl) | exact Or.inr (Or.inr rfl)))) (jg_name (i := 8) (by decide) sc.nd rfl (by first | exact Or.inl rfl | exact Or.inr rfl))
    (jss_cons (js_setIx (k := 3) rfl (by first | exact Or.inl rfl | exact Or.inr (Or.inl rfl) | exact Or.inr (Or.inr rfl)) (je_ix (je_var (i := 2) rfl (by first | exact Or.inl rfl | exact Or.inr (Or.inl rfl) | exact Or.inr (Or.inr rfl))) (je_bin op_mod os_mod (je_bin op_addA os_add (je_var (i := 5) rfl (by first | exact Or.inl rfl | exact Or.inr (Or.inl rfl) | exact Or.inr (Or.inr rfl))) (je_var (i := 8) rfl (by first | exact Or.inl rfl | exact Or.inr (Or.inl rfl) | exact Or.inr (Or.inr rfl)))) je_int) (fun _ _ => rfl)) (je_var (i := 4) rfl (by first | exact Or.inl rfl | exact Or.inr (Or.inl rfl) | exact Or.inr (Or.inr rfl))))
    (jss_one (js_app (k := 7) rfl (by first | exact Or.inl rfl | exact Or.inr (Or.inl rfl) | exact Or.inr (Or.inr rfl)) (je_bin op_addA os_add (je_bin op_addA os_add je_str (je_m1O (i := 3) PySem.F.slot_str_join PySem.F.type_str_join mt_join ms_join je_str rfl (by first | exact Or.inl rfl | exact Or.inr (Or.inl rfl) | exact Or.inr (Or.inr rfl)))) (je_bin op_mulA os_mul je_str (je_bin op_mulA os_mul (je_bin op_mod os_mod (je_var (i := 8) rfl (by first | exact Or.inl rfl | exact Or.inr (Or.inl rfl) | exact Or.inr (Or.inr rfl))) je_int) (je_var (i := 6) rfl (by first | exact Or.inl rfl | exact Or.inr (Or.inl rfl) | exact Or.inr (Or.inr rfl)))))) (PE0 := pe_bm PySem.F.plainAttrs_list PySem.F.slot_list_append PySem.F.type_list_append mt_append (pe_var rfl (by first | exact Or.inl rfl | exact Or.inr (Or.inl rfl) | exact Or.inr (Or.inr rfl))) (pa_cons (je_bin op_addA os_add (je_bin op_addA os_add je_str (je_m1O (i := 3) PySem.F.slot_str_join PySem.F.type_str_join mt_join ms_join je_str rfl (by first | exact Or.inl rfl | exact Or.inr (Or.inl rfl) | exact Or.inr (Or.inr rfl)))) (je_bin op_mulA os_mul je_str (je_bin op_mulA os_mul (je_bin op_mod os_mod (je_var (i := 8) rfl (by first | exact Or.inl rfl | exact Or.inr (Or.inl rfl) | exact Or.inr (Or.inr rfl))) je_int) (je_var (i := 6) rfl (by first | exact Or.inl rfl | exact Or.inr (Or.inl rfl) | exact Or.inr (Or.inr rfl)))))) pa_nil))))))
    (jss_one (js_ret (je_frz (i := 7) (by decide) rfl (by first | exact Or.inl rfl | exact Or.inr (Or.inl rfl) | exact Or.inr (Or.inr rfl))))))))))))
theorem ok__law_text (T : Tx K mg) : FnOk P w K mg base CX0 2 T.a__law_text T.d__law_text ["_law_deck_here"] (spF K 1 [0] f__law_text) := by
  have sc := sc__law_text
  refine fn_J T.F__law_text sc rfl rfl (by decide) fun cdv A outer s H E hr => ?_
  exact (jss_cons (js_set (i := 1) (by decide) sc.nd rfl (by first | exact Or.inl rfl | exact Or.inr rfl) je_str)
    (jss_cons (js_set (i := 2) (by decide) sc.nd rfl (by first | exact Or.inl rfl | exact Or.inr rfl) (je_m1 PySem.F.slot_str_join PySem.F.type_str_join mt_join ms_join je_str (je_fr (jo_comp (own := [("_law_k", 6)]) (by decide) (by decide) rfl sc.nd (ji_range1 (by rfl) T.z_range (je_ix (je_lst (ja_e je_int (ja_e je_int (ja_e je_int (ja_e je_int (ja_e je_int (ja_e je_int (ja_e je_int (ja_e je_int ja_nil))))))))) (je_call (ok__law_draw T) (hr.mono (by decide)) (by rfl) T.g__law_draw T.F__law_draw.kp T.b__law_draw (ja_o (i := 0) rfl (by first | exact Or.inl rfl | exact Or.inr (Or.inl rfl) | exact Or.inr (Or.inr rfl)) (ja_e je_int ja_nil))) (fun _ _ => rfl))) (blkOk_by (N := N__law_text) (sc := defScope s__law_text) (by decide +kernel)) (fun _ _ _ _ _ => (jg_name (i := 6) (by decide) sc.nd rfl (by first | exact Or.inl rfl | exact Or.inr rfl))) (fun _ _ _ _ _ => jts_nil) (fun _ _ _ _ _ => (je_ix (je_var (i := 1) rfl (by first | exact Or.inl rfl | exact Or.inr (Or.inl rfl) | exact Or.inr (Or.inr rfl))) (je_call (ok__law_draw T) (hr.mono (by decide)) (by rfl) T.g__law_draw T.F__law_draw.kp T.b__law_draw (ja_o (i := 0) rfl (by first | exact Or.inl rfl | exact Or.inr (Or.inl rfl) | exact Or.inr (Or.inr rfl)) (ja_e je_int ja_nil))) (fun _ _ => rfl)))))))
    (jss_cons (js_set (i := 3) (by decide) sc.nd rfl (by first | exact Or.inl rfl | exact Or.inr rfl) (je_call (ok__law_draw T) (hr.mono (by decide)) (by rfl) T.g__law_draw T.F__law_draw.kp T.b__law_draw (ja_o (i := 0) rfl (by first | exact Or.inl rfl | exact Or.inr (Or.inl rfl) | exact Or.inr (Or.inr rfl)) (ja_e je_int ja_nil))))
    (jss_cons (js_if (jt_cmp (op_eqA hr.units) os_eq (je_var (i := 3) rfl (by first | exact Or.inl rfl | exact Or.inr (Or.inl rfl) | exact Or.inr (Or.inr rfl))) je_int (nomark _))
    (jss_cons (js_set (i := 4) (by decide) sc.nd rfl (by first | exact Or.inl rfl | exact Or.inr rfl) je_str)
    (jss_cons (js_set (i := 5) (by decide) sc.nd rfl (by first | exact Or.inl rfl | exact Or.inr rfl) (je_call (ok__law_draw T) (hr.mono (by decide)) (by rfl) T.g__law_draw T.F__law_draw.kp T.b__law_draw (ja_o (i := 0) rfl (by first | exact Or.inl rfl | exact Or.inr (Or.inl rfl) | exact Or.inr (Or.inr rfl)) (ja_e (je_bin op_addA os_add (je_callB call_lenA cs_len (by rfl) T.z_len (by decide +kernel) (ja_e (je_var (i := 2) rfl (by first | exact Or.inl rfl | exact Or.inr (Or.inl rfl) | exact Or.inr (Or.inr rfl))) ja_nil)) je_int) ja_nil))))
    (jss_one (js_set (i := 2) (by decide) sc.nd rfl (by first | exact Or.inl rfl | exact Or.inr rfl) (je_bin op_addA os_add (je_bin op_addA os_add (je_slice (je_var (i := 2) rfl (by first | exact Or.inl rfl | exact Or.inr (Or.inl rfl) | exact Or.inr (Or.inr rfl))) jp_none (jp_some (je_var (i := 5) rfl (by first | exact Or.inl rfl | exact Or.inr (Or.inl rfl) | exact Or.inr (Or.inr rfl))))) (je_ix (je_var (i := 4) rfl (by first | exact Or.inl rfl | exact Or.inr (Or.inl rfl) | exact Or.inr (Or.inr rfl))) (je_call (ok__law_draw T) (hr.mono (by decide)) (by rfl) T.g__law_draw T.F__law_draw.kp T.b__law_draw (ja_o (i := 0) rfl (by first | exact Or.inl rfl | exact Or.inr (Or.inl rfl) | exact Or.inr (Or.inr rfl)) (ja_e (je_callB call_lenA cs_len (by rfl) T.z_len (by decide +kernel) (ja_e (je_var (i := 4) rfl (by first | exact Or.inl rfl | exact Or.inr (Or.inl rfl) | exact Or.inr (Or.inr rfl))) ja_nil)) ja_nil))) (fun _ _ => rfl))) (je_slice (je_var (i := 2) rfl (by first | exact Or.inl rfl | exact Or.inr (Or.inl rfl) | exact Or.inr (Or.inr rfl))) (jp_some (je_var (i := 5) rfl (by first | exact Or.inl rfl | exact Or.inr (Or.inl rfl) | exact Or.inr (Or.inr rfl)))) jp_none))))))
    jss_nil)
    (jss_cons (js_if (jt_cmp (op_eqA hr.units) os_eq (je_var (i := 3) rfl (by first | exact Or.inl rfl | exact Or.inr (Or.inl rfl) | exact Or.inr (Or.inr rfl))) je_int (nomark _))
    (jss_cons (js_set (i := 2) (by decide) sc.nd rfl (by first | exact Or.inl rfl | exact Or.inr rfl) (je_ix (je_call0 (ok__law_tongue T) (hr.mono (by decide)) (by rfl) T.g__law_tongue T.F__law_tongue.kp T.b__law_tongue) (je_call (ok__law_draw T) (hr.mono (by decide)) (by rfl) T.g__law_draw T.F__law_draw.kp T.b__law_draw (ja_o (i := 0) rfl (by first | exact Or.inl rfl | exact Or.inr (Or.inl rfl) | exact Or.inr (Or.inr rfl)) (ja_e je_int ja_nil))) (fun _ _ => rfl)))
    (jss_one (js_set (i := 2) (by decide) sc.nd rfl (by first | exact Or.inl rfl | exact Or.inr rfl) (je_ix (je_lst (ja_e (je_var (i := 2) rfl (by first | exact Or.inl rfl | exact Or.inr (Or.inl rfl) | exact Or.inr (Or.inr rfl))) (ja_e (je_slice (je_var (i := 2) rfl (by first | exact Or.inl rfl | exact Or.inr (Or.inl rfl) | exact Or.inr (Or.inr rfl))) jp_none (jp_some (je_neg je_int))) (ja_e (je_bin op_addA os_add (je_var (i := 2) rfl (by first | exact Or.inl rfl | exact Or.inr (Or.inl rfl) | exact Or.inr (Or.inr rfl))) (je_ix (je_var (i := 1) rfl (by first | exact Or.inl rfl | exact Or.inr (Or.inl rfl) | exact Or.inr (Or.inr rfl))) (je_call (ok__law_draw T) (hr.mono (by decide)) (by rfl) T.g__law_draw T.F__law_draw.kp T.b__law_draw (ja_o (i := 0) rfl (by first | exact Or.inl rfl | exact Or.inr (Or.inl rfl) | exact Or.inr (Or.inr rfl)) (ja_e je_int ja_nil))) (fun _ _ => rfl))) (ja_e (je_var (i := 2) rfl (by first | exact Or.inl rfl | exact Or.inr (Or.inl rfl) | exact Or.inr (Or.inr rfl))) ja_nil))))) (je_call (ok__law_draw T) (hr.mono (by decide)) (by rfl) T.g__law_draw T.F__law_draw.kp T.b__law_draw (ja_o (i := 0) rfl (by first | exact Or.inl rfl | exact Or.inr (Or.inl rfl) | exact Or.inr (Or.inr rfl)) (ja_e je_int ja_nil))) (fun _ _ => rfl)))))
    jss_nil)
    (jss_one (js_ret (je_var (i := 2) rfl (by first | exact Or.inl rfl | exact Or.inr (Or.inl rfl) | exact Or.inr (Or.inr rfl))))))))))
theorem ok__law_is_name (T : Tx K mg) : FnOk P w K mg base CX0 2 T.a__law_is_name T.d__law_is_name ["_law_text_here"] (spF K 1 [] f__law_is_name) := by
  have sc := sc__law_is_name
  refine fn_J T.F__law_is_name sc rfl rfl (by decide) fun cdv A outer s H E hr => ?_
  exact (jss_cons (js_if (PW.pt (jw_or (jt_not (jt_chain op_leA op_leA ob_ord os_ord je_int (je_callB call_lenA cs_len (by rfl) T.z_len (by decide +kernel) (ja_e (je_var (i := 0) rfl (by first | exact Or.inl rfl | exact Or.inr (Or.inl rfl) | exact Or.inr (Or.inr rfl))) ja_nil)) je_int)) (jw_or1 (jt_cmp op_inA os_in (je_var (i := 0) rfl (by first | exact Or.inl rfl | exact Or.inr (Or.inl rfl) | exact Or.inr (Or.inr rfl))) (je_call0 (ok__law_tongue T) (hr.mono (by decide)) (by rfl) T.g__law_tongue T.F__law_tongue.kp T.b__law_tongue) (by rfl)))))
    (jss_one (js_ret je_bl))
    jss_nil)
    (jss_one (js_ret (je_cmp (op_eqA hr.units) os_eq (je_fr (jo_comp (own := [("_law_sign", 1)]) (by decide) (by decide) rfl sc.nd (ji_any (je_var (i := 0) rfl (by first | exact Or.inl rfl | exact Or.inr (Or.inl rfl) | exact Or.inr (Or.inr rfl)))) (blkOk_by (N := N__law_is_name) (sc := defScope s__law_is_name) (by decide +kernel)) (fun _ _ _ _ _ => (jg_name (i := 1) (by decide) sc.nd rfl (by first | exact Or.inl rfl | exact Or.inr rfl))) (fun _ _ _ _ _ => (jts_one (jt_cmp op_notInA os_notIn (je_var (i := 1) rfl (by first | exact Or.inl rfl | exact Or.inr (Or.inl rfl) | exact Or.inr (Or.inr rfl))) je_str (by rfl)))) (fun _ _ _ _ _ => (je_var (i := 1) rfl (by first | exact Or.inl rfl | exact Or.inr (Or.inl rfl) | exact Or.inr (Or.inr rfl)))))) (je_lst ja_nil) (nomark _)))))
theorem ok__law_is_box (T : Tx K mg) : FnOk P w K mg base CX0 3 T.a__law_is_box T.d__law_is_box ["_law_text_here"] (spF K 1 [] f__law_is_box) := by
  have sc := sc__law_is_box
  refine fn_J T.F__law_is_box sc rfl rfl (by decide) fun cdv A outer s H E hr => ?_
  exact (jss_cons (js_set (i := 1) (by decide) sc.nd rfl (by first | exact Or.inl rfl | exact Or.inr rfl) (je_m1 PySem.F.slot_str_split PySem.F.type_str_split mt_split ms_split (je_var (i := 0) rfl (by first | exact Or.inl rfl | exact Or.inr (Or.inl rfl) | exact Or.inr (Or.inr rfl))) je_str))
    (jss_one (js_ret (je_and (je_cmp op_ltA os_ord (je_callB call_lenA cs_len (by rfl) T.z_len (by decide +kernel) (ja_e (je_var (i := 1) rfl (by first | exact Or.inl rfl | exact Or.inr (Or.inl rfl) | exact Or.inr (Or.inr rfl))) ja_nil)) je_int (nomark _)) (je_one (je_cmp (op_eqA hr.units) os_eq (je_fr (jo_comp (own := [("_law_part", 2)]) (by decide) (by decide) rfl sc.nd (ji_any (je_var (i := 1) rfl (by first | exact Or.inl rfl | exact Or.inr (Or.inl rfl) | exact Or.inr (Or.inr rfl)))) (blkOk_by (N := N__law_is_box) (sc := defScope s__law_is_box) (by decide +kernel)) (fun _ _ _ _ _ => (jg_name (i := 2) (by decide) sc.nd rfl (by first | exact Or.inl rfl | exact Or.inr rfl))) (fun _ _ _ _ _ => (jts_one (jt_not (jt_val (je_call (ok__law_is_name T) (hr.mono (by decide)) (by rfl) T.g__law_is_name T.F__law_is_name.kp T.b__law_is_name (ja_e (je_var (i := 2) rfl (by first | exact Or.inl rfl | exact Or.inr (Or.inl rfl) | exact Or.inr (Or.inr rfl))) ja_nil)))))) (fun _ _ _ _ _ => (je_var (i := 2) rfl (by first | exact Or.inl rfl | exact Or.inr (Or.inl rfl) | exact Or.inr (Or.inr rfl)))))) (je_lst ja_nil) (nomark _)))))))
theorem ok__law_records_right (T : Tx K mg) : FnOk P w K mg base CX0 3 T.a__law_records_right T.d__law_records_right ["_law_deck_here", "_law_names_here"] (spF K 2 [0] f__law_records_right) := by
  have sc := sc__law_records_right
  refine fn_J T.F__law_records_right sc rfl rfl (by decide) fun cdv A outer s H E hr => ?_
  exact (jss_cons (js_asg (je_fr (jo_comp (own := [("_law_k", 8)]) (by decide) (by decide) rfl sc.nd (ji_range1 (by rfl) T.z_range je_int) (blkOk_by (N := N__law_records_right) (sc := defScope s__law_records_right) (by decide +kernel)) (fun _ _ _ _ _ => (jg_name (i := 8) (by decide) sc.nd rfl (by first | exact Or.inl rfl | exact Or.inr rfl))) (fun _ _ _ _ _ => jts_nil) (fun _ _ _ _ _ => (je_ix (je_var (i := 1) rfl (by first | exact Or.inl rfl | exact Or.inr (Or.inl rfl) | exact Or.inr (Or.inr rfl))) (je_call (ok__law_draw T) (hr.mono (by decide)) (by rfl) T.g__law_draw T.F__law_draw.kp T.b__law_draw (ja_o (i := 0) rfl (by first | exact Or.inl rfl | exact Or.inr (Or.inl rfl) | exact Or.inr (Or.inr rfl)) (ja_e (je_callB call_lenA cs_len (by rfl) T.z_len (by decide +kernel) (ja_e (je_var (i := 1) rfl (by first | exact Or.inl rfl | exact Or.inr (Or.inl rfl) | exact Or.inr (Or.inr rfl))) ja_nil)) ja_nil))) (fun _ _ => rfl))))) (jg_lst rfl (jgs_cons (jg_name (i := 2) (by decide) sc.nd rfl (by first | exact Or.inl rfl | exact Or.inr rfl)) (jgs_cons (jg_name (i := 3) (by decide) sc.nd rfl (by first | exact Or.inl rfl | exact Or.inr rfl)) (jgs_cons (jg_name (i := 4) (by decide) sc.nd rfl (by first | exact Or.inl rfl | exact Or.inr rfl)) jgs_nil)))))
    (jss_cons (js_for PassesOwn.never rfl (ji_any (je_lst (ja_e (je_tup (ja_e (je_bin op_addA os_add (je_bin op_addA os_add (je_var (i := 2) rfl (by first | exact Or.inl rfl | exact Or.inr (Or.inl rfl) | exact Or.inr (Or.inr rfl))) je_str) (je_var (i := 3) rfl (by first | exact Or.inl rfl | exact Or.inr (Or.inl rfl) | exact Or.inr (Or.inr rfl)))) (ja_e (je_cmp (op_eqA hr.units) os_eq (je_var (i := 2) rfl (by first | exact Or.inl rfl | exact Or.inr (Or.inl rfl) | exact Or.inr (Or.inr rfl))) (je_var (i := 4) rfl (by first | exact Or.inl rfl | exact Or.inr (Or.inl rfl) | exact Or.inr (Or.inr rfl))) (nomark _)) ja_nil))) (ja_e (je_tup (ja_e (je_var (i := 2) rfl (by first | exact Or.inl rfl | exact Or.inr (Or.inl rfl) | exact Or.inr (Or.inr rfl))) (ja_e je_bl ja_nil))) (ja_e (je_tup (ja_e (je_bin op_addA os_add (je_bin op_addA os_add (je_var (i := 2) rfl (by first | exact Or.inl rfl | exact Or.inr (Or.inl rfl) | exact Or.inr (Or.inr rfl))) je_str) (je_var (i := 4) rfl (by first | exact Or.inl rfl | exact Or.inr (Or.inl rfl) | exact Or.inr (Or.inr rfl)))) (ja_e (je_cmp (op_eqA hr.units) os_eq (je_var (i := 2) rfl (by first | exact Or.inl rfl | exact Or.inr (Or.inl rfl) | exact Or.inr (Or.inr rfl))) (je_var (i := 4) rfl (by first | exact Or.inl rfl | exact Or.inr (Or.inl rfl) | exact Or.inr (Or.inr rfl))) (nomark _)) ja_nil))) ja_nil))))) (jg_tup rfl (jgs_cons (jg_name (i := 5) (by decide) sc.nd rfl (by first | exact Or.inl rfl | exact Or.inr rfl)) (jgs_cons (jg_name (i := 6) (by decide) sc.nd rfl (by first | exact Or.inl rfl | exact Or.inr rfl)) jgs_nil)))
    (jss_cons (js_set (i := 7) (by decide) sc.nd rfl (by first | exact Or.inl rfl | exact Or.inr rfl) (je_call (ok_in_record T) (hr.mono (by decide)) (by rfl) T.g_in_record T.F_in_record.kp T.b_in_record (ja_e (je_var (i := 5) rfl (by first | exact Or.inl rfl | exact Or.inr (Or.inl rfl) | exact Or.inr (Or.inr rfl))) (ja_e (je_var (i := 4) rfl (by first | exact Or.inl rfl | exact Or.inr (Or.inl rfl) | exact Or.inr (Or.inr rfl))) ja_nil))))
    (jss_one (js_if (PW.pt (jw_or (jt_not (jt_val (je_isi (T := "bool") (T' := "bool") (je_var (i := 7) rfl (by first | exact Or.inl rfl | exact Or.inr (Or.inl rfl) | exact Or.inr (Or.inr rfl))) (by rfl) T.z_isinstance (by rfl) T.z_bool (by decide +kernel)))) (jw_or1 (jt_cmp (op_neA hr.units) os_ne (je_var (i := 7) rfl (by first | exact Or.inl rfl | exact Or.inr (Or.inl rfl) | exact Or.inr (Or.inr rfl))) (je_var (i := 6) rfl (by first | exact Or.inl rfl | exact Or.inr (Or.inl rfl) | exact Or.inr (Or.inr rfl))) (nomark _)))))
    (jss_one (js_ret je_bl))
    jss_nil))))
    (jss_one (js_ret je_bl))))
theorem ok__law_right (T : Tx K mg) : FnOk P w K mg base CX0 4 T.a__law_right T.d__law_right ["_law_text_here"] (spF K 1 [] f__law_right) := by
  have sc := sc__law_right
  refine fn_J T.F__law_right sc rfl rfl (by decide) fun cdv A outer s H E hr => ?_
  exact (jss_cons (js_for PassesOwn.never rfl (ji_any (je_lst (ja_e (je_tup (ja_e (je_call (ok_is_name T) (hr.mono (by decide)) (by rfl) T.g_is_name T.F_is_name.kp T.b_is_name (ja_e (je_var (i := 0) rfl (by first | exact Or.inl rfl | exact Or.inr (Or.inl rfl) | exact Or.inr (Or.inr rfl))) ja_nil)) (ja_e (je_call (ok__law_is_name T) (hr.mono (by decide)) (by rfl) T.g__law_is_name T.F__law_is_name.kp T.b__law_is_name (ja_e (je_var (i := 0) rfl (by first | exact Or.inl rfl | exact Or.inr (Or.inl rfl) | exact Or.inr (Or.inr rfl))) ja_nil)) ja_nil))) (ja_e (je_tup (ja_e (je_call (ok_is_box T) (hr.mono (by decide)) (by rfl) T.g_is_box T.F_is_box.kp T.b_is_box (ja_e (je_var (i := 0) rfl (by first | exact Or.inl rfl | exact Or.inr (Or.inl rfl) | exact Or.inr (Or.inr rfl))) ja_nil)) (ja_e (je_call (ok__law_is_box T) (hr.mono (by decide)) (by rfl) T.g__law_is_box T.F__law_is_box.kp T.b__law_is_box (ja_e (je_var (i := 0) rfl (by first | exact Or.inl rfl | exact Or.inr (Or.inl rfl) | exact Or.inr (Or.inr rfl))) ja_nil)) ja_nil))) ja_nil)))) (jg_tup rfl (jgs_cons (jg_name (i := 1) (by decide) sc.nd rfl (by first | exact Or.inl rfl | exact Or.inr rfl)) (jgs_cons (jg_name (i := 2) (by decide) sc.nd rfl (by first | exact Or.inl rfl | exact Or.inr rfl)) jgs_nil)))
    (jss_one (js_if (PW.pt (jw_or (jt_not (jt_val (je_isi (T := "bool") (T' := "bool") (je_var (i := 1) rfl (by first | exact Or.inl rfl | exact Or.inr (Or.inl rfl) | exact Or.inr (Or.inr rfl))) (by rfl) T.z_isinstance (by rfl) T.z_bool (by decide +kernel)))) (jw_or1 (jt_cmp (op_neA hr.units) os_ne (je_var (i := 1) rfl (by first | exact Or.inl rfl | exact Or.inr (Or.inl rfl) | exact Or.inr (Or.inr rfl))) (je_var (i := 2) rfl (by first | exact Or.inl rfl | exact Or.inr (Or.inl rfl) | exact Or.inr (Or.inr rfl))) (nomark _)))))
    (jss_one (js_ret je_bl))
    jss_nil)))
    (jss_one (js_ret je_bl)))
theorem ok_law (T : Tx K mg) : FnOk P w K mg base CX0 5 T.a_law T.d_law ["_law_script"] (spF K 1 [] f_law) := by
  have sc := sc_law
  refine fn_J T.F_law sc rfl rfl (by decide) fun cdv A outer s H E hr => ?_
  exact (jss_cons (js_for PassesOwn.never rfl (ji_any (je_lst (ja_e je_non (ja_e je_int (ja_e je_bl (ja_e (je_tup ja_nil) (ja_e (je_tup (ja_e je_str ja_nil)) (ja_e (je_lst (ja_e je_str ja_nil)) (ja_e (je_bin op_pow os_pow je_int je_int) (ja_e (je_tup (ja_e je_str (ja_e je_str ja_nil))) ja_nil)))))))))) (jg_name (i := 1) (by decide) sc.nd rfl (by first | exact Or.inl rfl | exact Or.inr rfl))
    (jss_one (js_if (PW.pt (jw_or (jt_cmp op_isNotA os_isNot (je_call (ok_is_name T) (hr.mono (by decide)) (by rfl) T.g_is_name T.F_is_name.kp T.b_is_name (ja_e (je_var (i := 1) rfl (by first | exact Or.inl rfl | exact Or.inr (Or.inl rfl) | exact Or.inr (Or.inr rfl))) ja_nil)) je_bl (nomark _)) (jw_or1 (jt_cmp op_isNotA os_isNot (je_call (ok_is_box T) (hr.mono (by decide)) (by rfl) T.g_is_box T.F_is_box.kp T.b_is_box (ja_e (je_var (i := 1) rfl (by first | exact Or.inl rfl | exact Or.inr (Or.inl rfl) | exact Or.inr (Or.inr rfl))) ja_nil)) je_bl (nomark _)))))
    (jss_one (js_ret je_bl))
    jss_nil)))
    (jss_cons (js_for PassesOwn.never rfl (ji_range1 (by rfl) T.z_range (je_callB (call_max2 rfl) (cs_II (f := fun i j => if j > i then j else i)) (by rfl) T.z_max (by decide +kernel) (ja_e je_int (ja_e (je_callB (call_min2 rfl) (cs_II (f := fun i j => if j < i then j else i)) (by rfl) T.z_min (by decide +kernel) (ja_e (je_callB call_lenA cs_len (by rfl) T.z_len (by decide +kernel) (ja_e (je_var (i := 0) rfl (by first | exact Or.inl rfl | exact Or.inr (Or.inl rfl) | exact Or.inr (Or.inr rfl))) ja_nil)) (ja_e je_int ja_nil))) ja_nil)))) (jg_name (i := 2) (by decide) sc.nd rfl (by first | exact Or.inl rfl | exact Or.inr rfl))
    (jss_cons (js_setO (i := 3) (by decide) sc.nd rfl (by first | exact Or.inl rfl | exact Or.inr rfl) (jo_call (ok__law_deck T) (hr.mono (by decide)) (by rfl) T.g__law_deck T.F__law_deck.kp T.b__law_deck (ja_e (je_var (i := 0) rfl (by first | exact Or.inl rfl | exact Or.inr (Or.inl rfl) | exact Or.inr (Or.inr rfl))) (ja_e (je_var (i := 2) rfl (by first | exact Or.inl rfl | exact Or.inr (Or.inl rfl) | exact Or.inr (Or.inr rfl))) ja_nil))))
    (jss_cons (js_set (i := 4) (by decide) sc.nd rfl (by first | exact Or.inl rfl | exact Or.inr rfl) (je_call (ok__law_text T) (hr.mono (by decide)) (by rfl) T.g__law_text T.F__law_text.kp T.b__law_text (ja_o (i := 3) rfl (by first | exact Or.inl rfl | exact Or.inr (Or.inl rfl) | exact Or.inr (Or.inr rfl)) ja_nil)))
    (jss_cons (js_set (i := 5) (by decide) sc.nd rfl (by first | exact Or.inl rfl | exact Or.inr rfl) (je_call (ok__law_text T) (hr.mono (by decide)) (by rfl) T.g__law_text T.F__law_text.kp T.b__law_text (ja_o (i := 3) rfl (by first | exact Or.inl rfl | exact Or.inr (Or.inl rfl) | exact Or.inr (Or.inr rfl)) ja_nil)))
    (jss_cons (js_set (i := 6) (by decide) sc.nd rfl (by first | exact Or.inl rfl | exact Or.inr rfl) (je_ix (je_lst (ja_e je_str (ja_e je_str (ja_e je_str (ja_e je_str ja_nil))))) (je_call (ok__law_draw T) (hr.mono (by decide)) (by rfl) T.g__law_draw T.F__law_draw.kp T.b__law_draw (ja_o (i := 3) rfl (by first | exact Or.inl rfl | exact Or.inr (Or.inl rfl) | exact Or.inr (Or.inr rfl)) (ja_e je_int ja_nil))) (fun _ _ => rfl)))
    (jss_cons (js_for PassesOwn.never rfl (ji_any (je_lst (ja_e (je_var (i := 4) rfl (by first | exact Or.inl rfl | exact Or.inr (Or.inl rfl) | exact Or.inr (Or.inr rfl))) (ja_e (je_var (i := 5) rfl (by first | exact Or.inl rfl | exact Or.inr (Or.inl rfl) | exact Or.inr (Or.inr rfl))) (ja_e (je_bin op_addA os_add (je_bin op_addA os_add (je_var (i := 4) rfl (by first | exact Or.inl rfl | exact Or.inr (Or.inl rfl) | exact Or.inr (Or.inr rfl))) (je_var (i := 6) rfl (by first | exact Or.inl rfl | exact Or.inr (Or.inl rfl) | exact Or.inr (Or.inr rfl)))) (je_var (i := 5) rfl (by first | exact Or.inl rfl | exact Or.inr (Or.inl rfl) | exact Or.inr (Or.inr rfl)))) (ja_e (je_bin op_addA os_add (je_var (i := 4) rfl (by first | exact Or.inl rfl | exact Or.inr (Or.inl rfl) | exact Or.inr (Or.inr rfl))) je_str) (ja_e (je_bin op_addA os_add je_str (je_var (i := 4) rfl (by first | exact Or.inl rfl | exact Or.inr (Or.inl rfl) | exact Or.inr (Or.inr rfl)))) (ja_e (je_bin op_addA os_add (je_bin op_addA os_add (je_bin op_addA os_add (je_bin op_addA os_add (je_var (i := 4) rfl (by first | exact Or.inl rfl | exact Or.inr (Or.inl rfl) | exact Or.inr (Or.inr rfl))) je_str) (je_var (i := 5) rfl (by first | exact Or.inl rfl | exact Or.inr (Or.inl rfl) | exact Or.inr (Or.inr rfl)))) je_str) (je_var (i := 4) rfl (by first | exact Or.inl rfl | exact Or.inr (Or.inl rfl) | exact Or.inr (Or.inr rfl)))) ja_nil)))))))) (jg_name (i := 7) (by decide) sc.nd rfl (by first | exact Or.inl rfl | exact Or.inr rfl))
    (jss_one (js_if (jt_not (jt_val (je_call (ok__law_right T) (hr.mono (by decide)) (by rfl) T.g__law_right T.F__law_right.kp T.b__law_right (ja_e (je_var (i := 7) rfl (by first | exact Or.inl rfl | exact Or.inr (Or.inl rfl) | exact Or.inr (Or.inr rfl))) ja_nil))))
    (jss_one (js_ret je_bl))
    jss_nil)))
    (jss_cons (js_set (i := 8) (by decide) sc.nd rfl (by first | exact Or.inl rfl | exact Or.inr rfl) (je_call (ok__law_names T) (hr.mono (by decide)) (by rfl) T.g__law_names T.F__law_names.kp T.b__law_names (ja_o (i := 3) rfl (by first | exact Or.inl rfl | exact Or.inr (Or.inl rfl) | exact Or.inr (Or.inr rfl)) (ja_e je_int ja_nil))))
    (jss_cons (js_set (i := 8) (by decide) sc.nd rfl (by first | exact Or.inl rfl | exact Or.inr rfl) (je_bin op_addA os_add (je_var (i := 8) rfl (by first | exact Or.inl rfl | exact Or.inr (Or.inl rfl) | exact Or.inr (Or.inr rfl))) (je_lst (ja_e (je_slice (je_ix (je_var (i := 8) rfl (by first | exact Or.inl rfl | exact Or.inr (Or.inl rfl) | exact Or.inr (Or.inr rfl))) je_int (fun _ _ => rfl)) jp_none (jp_some je_int)) (ja_e (je_slice (je_ix (je_var (i := 8) rfl (by first | exact Or.inl rfl | exact Or.inr (Or.inl rfl) | exact Or.inr (Or.inr rfl))) je_int (fun _ _ => rfl)) jp_none (jp_some je_int)) (ja_e (je_slice (je_ix (je_var (i := 8) rfl (by first | exact Or.inl rfl | exact Or.inr (Or.inl rfl) | exact Or.inr (Or.inr rfl))) je_int (fun _ _ => rfl)) jp_none (jp_some (je_neg je_int))) ja_nil))))))
    (jss_one (js_if (jt_not (jt_val (je_call (ok__law_records_right T) (hr.mono (by decide)) (by rfl) T.g__law_records_right T.F__law_records_right.kp T.b__law_records_right (ja_o (i := 3) rfl (by first | exact Or.inl rfl | exact Or.inr (Or.inl rfl) | exact Or.inr (Or.inr rfl)) (ja_e (je_bin op_addA os_add (je_var (i := 8) rfl (by first | exact Or.inl rfl | exact Or.inr (Or.inl rfl) | exact Or.inr (Or.inr rfl))) (je_lst (ja_e je_str (ja_e je_str (ja_e je_str (ja_e je_str ja_nil)))))) ja_nil)))))
    (jss_one (js_ret je_bl))
    jss_nil))))))))))
    (jss_one (js_ret je_bl))))
end
end K01
namespace K01
open PySem PySem.Spec PyProof.Rows L2 Dn
theorem all_mk {l : PySem.W.OpenLaw} {w : World} {K : Frag} {h : Heap} {mg : Str → Option Value} {fa f0 f1 f2 f3 f4 f5 f6 f7 f8 f9 f10 f11 f12 f13 : Addr} {od0 an0 : Option Addr} {sl0 : Array (Option Value)} {oc0 kV0 dc0 pm0 cd0 ct0 : Value} {od1 an1 : Option Addr} {sl1 : Array (Option Value)} {oc1 kV1 dc1 pm1 cd1 ct1 : Value} {od2 an2 : Option Addr} {sl2 : Array (Option Value)} {oc2 kV2 dc2 pm2 cd2 ct2 : Value} {od3 an3 : Option Addr} {sl3 : Array (Option Value)} {oc3 kV3 dc3 pm3 cd3 ct3 : Value} {od4 an4 : Option Addr} {sl4 : Array (Option Value)} {oc4 kV4 dc4 pm4 cd4 ct4 : Value} {od5 an5 : Option Addr} {sl5 : Array (Option Value)} {oc5 kV5 dc5 pm5 cd5 ct5 : Value} {od6 an6 : Option Addr} {sl6 : Array (Option Value)} {oc6 kV6 dc6 pm6 cd6 ct6 : Value} {od7 an7 : Option Addr} {sl7 : Array (Option Value)} {oc7 kV7 dc7 pm7 cd7 ct7 : Value} {od8 an8 : Option Addr} {sl8 : Array (Option Value)} {oc8 kV8 dc8 pm8 cd8 ct8 : Value} {od9 an9 : Option Addr} {sl9 : Array (Option Value)} {oc9 kV9 dc9 pm9 cd9 ct9 : Value} {od10 an10 : Option Addr} {sl10 : Array (Option Value)} {oc10 kV10 dc10 pm10 cd10 ct10 : Value} {od11 an11 : Option Addr} {sl11 : Array (Option Value)} {oc11 kV11 dc11 pm11 cd11 ct11 : Value} {od12 an12 : Option Addr} {sl12 : Array (Option Value)} {oc12 kV12 dc12 pm12 cd12 ct12 : Value} {od13 an13 : Option Addr} {sl13 : Array (Option Value)} {oc13 kV13 dc13 pm13 cd13 ct13 : Value} {tk0 : Tok} {tk1 : Tok} {q2 : Addr} {dd2 : Option Addr} {it2 : Array Value} {nn2 : Nat} {ss2 : Array (Option Value)} (X : K.In h) (G : h.Ns mainGlobals mg) (hfa : mg "law" = some (.ref fa))
    (a0 : PySem.W.nsIn K mainGlobals "is_name" = some (some (.ref f0)))
    (l0 : K.lookup f0 = some ⟨oc0, od0, .func (PySem.W.fnOf "is_name" "is_name" (defArgs s_is_name) (defBody s_is_name) (defScope s_is_name) .none kV0 dc0 pm0 an0 cd0 ct0), sl0⟩)
    (c0 : PySem.W.codeIn K cd0 "is_name" = true)
    (k0 : PySem.W.keepIn K (.ref f0) = true)
    (a1 : PySem.W.nsIn K mainGlobals "first_name" = some (some (.ref f1)))
    (l1 : K.lookup f1 = some ⟨oc1, od1, .func (PySem.W.fnOf "first_name" "first_name" (defArgs s_first_name) (defBody s_first_name) (defScope s_first_name) .none kV1 dc1 pm1 an1 cd1 ct1), sl1⟩)
    (c1 : PySem.W.codeIn K cd1 "first_name" = true)
    (k1 : PySem.W.keepIn K (.ref f1) = true)
    (a2 : PySem.W.nsIn K mainGlobals "_law_deck" = some (some (.ref f2)))
    (l2 : K.lookup f2 = some ⟨oc2, od2, .func (PySem.W.fnOf "_law_deck" "_law_deck" (defArgs s__law_deck) (defBody s__law_deck) (defScope s__law_deck) .none kV2 dc2 pm2 an2 cd2 ct2), sl2⟩)
    (c2 : PySem.W.codeIn K cd2 "_law_deck" = true)
    (k2 : PySem.W.keepIn K (.ref f2) = true)
    (a3 : PySem.W.nsIn K mainGlobals "_law_draw" = some (some (.ref f3)))
    (l3 : K.lookup f3 = some ⟨oc3, od3, .func (PySem.W.fnOf "_law_draw" "_law_draw" (defArgs s__law_draw) (defBody s__law_draw) (defScope s__law_draw) .none kV3 dc3 pm3 an3 cd3 ct3), sl3⟩)
    (c3 : PySem.W.codeIn K cd3 "_law_draw" = true)
    (k3 : PySem.W.keepIn K (.ref f3) = true)
    (a4 : PySem.W.nsIn K mainGlobals "_law_tongue" = some (some (.ref f4)))
    (l4 : K.lookup f4 = some ⟨oc4, od4, .func (PySem.W.fnOf "_law_tongue" "_law_tongue" (defArgs s__law_tongue) (defBody s__law_tongue) (defScope s__law_tongue) .none kV4 dc4 pm4 an4 cd4 ct4), sl4⟩)
    (c4 : PySem.W.codeIn K cd4 "_law_tongue" = true)
    (k4 : PySem.W.keepIn K (.ref f4) = true)
    (a5 : PySem.W.nsIn K mainGlobals "is_box" = some (some (.ref f5)))
    (l5 : K.lookup f5 = some ⟨oc5, od5, .func (PySem.W.fnOf "is_box" "is_box" (defArgs s_is_box) (defBody s_is_box) (defScope s_is_box) .none kV5 dc5 pm5 an5 cd5 ct5), sl5⟩)
    (c5 : PySem.W.codeIn K cd5 "is_box" = true)
    (k5 : PySem.W.keepIn K (.ref f5) = true)
    (a6 : PySem.W.nsIn K mainGlobals "in_record" = some (some (.ref f6)))
    (l6 : K.lookup f6 = some ⟨oc6, od6, .func (PySem.W.fnOf "in_record" "in_record" (defArgs s_in_record) (defBody s_in_record) (defScope s_in_record) .none kV6 dc6 pm6 an6 cd6 ct6), sl6⟩)
    (c6 : PySem.W.codeIn K cd6 "in_record" = true)
    (k6 : PySem.W.keepIn K (.ref f6) = true)
    (a7 : PySem.W.nsIn K mainGlobals "_law_names" = some (some (.ref f7)))
    (l7 : K.lookup f7 = some ⟨oc7, od7, .func (PySem.W.fnOf "_law_names" "_law_names" (defArgs s__law_names) (defBody s__law_names) (defScope s__law_names) .none kV7 dc7 pm7 an7 cd7 ct7), sl7⟩)
    (c7 : PySem.W.codeIn K cd7 "_law_names" = true)
    (k7 : PySem.W.keepIn K (.ref f7) = true)
    (a8 : PySem.W.nsIn K mainGlobals "_law_text" = some (some (.ref f8)))
    (l8 : K.lookup f8 = some ⟨oc8, od8, .func (PySem.W.fnOf "_law_text" "_law_text" (defArgs s__law_text) (defBody s__law_text) (defScope s__law_text) .none kV8 dc8 pm8 an8 cd8 ct8), sl8⟩)
    (c8 : PySem.W.codeIn K cd8 "_law_text" = true)
    (k8 : PySem.W.keepIn K (.ref f8) = true)
    (a9 : PySem.W.nsIn K mainGlobals "_law_is_name" = some (some (.ref f9)))
    (l9 : K.lookup f9 = some ⟨oc9, od9, .func (PySem.W.fnOf "_law_is_name" "_law_is_name" (defArgs s__law_is_name) (defBody s__law_is_name) (defScope s__law_is_name) .none kV9 dc9 pm9 an9 cd9 ct9), sl9⟩)
    (c9 : PySem.W.codeIn K cd9 "_law_is_name" = true)
    (k9 : PySem.W.keepIn K (.ref f9) = true)
    (a10 : PySem.W.nsIn K mainGlobals "_law_is_box" = some (some (.ref f10)))
    (l10 : K.lookup f10 = some ⟨oc10, od10, .func (PySem.W.fnOf "_law_is_box" "_law_is_box" (defArgs s__law_is_box) (defBody s__law_is_box) (defScope s__law_is_box) .none kV10 dc10 pm10 an10 cd10 ct10), sl10⟩)
    (c10 : PySem.W.codeIn K cd10 "_law_is_box" = true)
    (k10 : PySem.W.keepIn K (.ref f10) = true)
    (a11 : PySem.W.nsIn K mainGlobals "_law_records_right" = some (some (.ref f11)))
    (l11 : K.lookup f11 = some ⟨oc11, od11, .func (PySem.W.fnOf "_law_records_right" "_law_records_right" (defArgs s__law_records_right) (defBody s__law_records_right) (defScope s__law_records_right) .none kV11 dc11 pm11 an11 cd11 ct11), sl11⟩)
    (c11 : PySem.W.codeIn K cd11 "_law_records_right" = true)
    (k11 : PySem.W.keepIn K (.ref f11) = true)
    (a12 : PySem.W.nsIn K mainGlobals "_law_right" = some (some (.ref f12)))
    (l12 : K.lookup f12 = some ⟨oc12, od12, .func (PySem.W.fnOf "_law_right" "_law_right" (defArgs s__law_right) (defBody s__law_right) (defScope s__law_right) .none kV12 dc12 pm12 an12 cd12 ct12), sl12⟩)
    (c12 : PySem.W.codeIn K cd12 "_law_right" = true)
    (k12 : PySem.W.keepIn K (.ref f12) = true)
    (a13 : PySem.W.nsIn K mainGlobals "law" = some (some (.ref f13)))
    (l13 : K.lookup f13 = some ⟨oc13, od13, .func (PySem.W.fnOf "law" "law" (defArgs s_law) (defBody s_law) (defScope s_law) .none kV13 dc13 pm13 an13 cd13 ct13), sl13⟩)
    (c13 : PySem.W.codeIn K cd13 "law" = true)
    (k13 : PySem.W.keepIn K (.ref f13) = true)
    (z0 : PySem.W.nsIn K mainGlobals "all" = some none)
    (z1 : PySem.W.nsIn K mainGlobals "bool" = some none)
    (z2 : PySem.W.nsIn K mainGlobals "int" = some none)
    (z3 : PySem.W.nsIn K mainGlobals "isinstance" = some none)
    (z4 : PySem.W.nsIn K mainGlobals "len" = some none)
    (z5 : PySem.W.nsIn K mainGlobals "max" = some none)
    (z6 : PySem.W.nsIn K mainGlobals "min" = some none)
    (z7 : PySem.W.nsIn K mainGlobals "range" = some none)
    (z8 : PySem.W.nsIn K mainGlobals "str" = some none)
    (y0 : PySem.W.nsIn K mainGlobals "LETTERS" = some (some (.str "abcdefghijklmnopqrstuvwxyz" tk0)))
    (y1 : PySem.W.nsIn K mainGlobals "LONGEST" = some (some (.int 8 tk1)))
    (y2 : PySem.W.nsIn K mainGlobals "TONGUE" = some (some (.ref q2)))
    (yl2 : K.lookup q2 = some ⟨.type "tuple", dd2, .seq it2 nn2, ss2⟩)
    (yv2 : Vals [V.str "take", V.str "ask", V.str "number", V.str "copy", V.str "mix", V.str "open", V.str "tell", V.str "wipe", V.str "clear", V.str "drop", V.str "choose", V.str "loop", V.str "out", V.str "risk", V.str "fault", V.str "call", V.str "back", V.str "def", V.str "main"] it2.toList) :
    ∃ fd : FuncData, (∀ (s : Shared) (v : Value), BindsTo s fd ⟨[v], []⟩ [("_law_script", v)]) ∧ ∀ base : Heap, K.In base → base.Ns mainGlobals mg → FnOk l.prog w K mg base CX0 5 fa fd ["_law_script"] (spF K 1 [] f_law) := by
  have e := hfa.symm.trans (PySem.W.mg_of X G a13)
  cases e
  have F0 := fun_mk (st := s_is_name) l0 c0 k0
  have b0 := F0.binds (ps := ["thing"]) fun _ _ _ _ _ _ us hl => match us, hl with | [_], _ => rfl
  have F1 := fun_mk (st := s_first_name) l1 c1 k1
  have b1 := F1.binds (ps := ["box"]) fun _ _ _ _ _ _ us hl => match us, hl with | [_], _ => rfl
  have F2 := fun_mk (st := s__law_deck) l2 c2 k2
  have b2 := F2.binds (ps := ["_law_script", "_law_k"]) fun _ _ _ _ _ _ us hl => match us, hl with | [_, _], _ => rfl
  have F3 := fun_mk (st := s__law_draw) l3 c3 k3
  have b3 := F3.binds (ps := ["_law_deck_here", "_law_many"]) fun _ _ _ _ _ _ us hl => match us, hl with | [_, _], _ => rfl
  have F4 := fun_mk (st := s__law_tongue) l4 c4 k4
  have b4 := F4.binds (ps := []) fun _ _ _ _ _ _ us hl => match us, hl with | [], _ => rfl
  have F5 := fun_mk (st := s_is_box) l5 c5 k5
  have b5 := F5.binds (ps := ["thing"]) fun _ _ _ _ _ _ us hl => match us, hl with | [_], _ => rfl
  have F6 := fun_mk (st := s_in_record) l6 c6 k6
  have b6 := F6.binds (ps := ["box", "name"]) fun _ _ _ _ _ _ us hl => match us, hl with | [_, _], _ => rfl
  have F7 := fun_mk (st := s__law_names) l7 c7 k7
  have b7 := F7.binds (ps := ["_law_deck_here", "_law_many"]) fun _ _ _ _ _ _ us hl => match us, hl with | [_, _], _ => rfl
  have F8 := fun_mk (st := s__law_text) l8 c8 k8
  have b8 := F8.binds (ps := ["_law_deck_here"]) fun _ _ _ _ _ _ us hl => match us, hl with | [_], _ => rfl
  have F9 := fun_mk (st := s__law_is_name) l9 c9 k9
  have b9 := F9.binds (ps := ["_law_text_here"]) fun _ _ _ _ _ _ us hl => match us, hl with | [_], _ => rfl
  have F10 := fun_mk (st := s__law_is_box) l10 c10 k10
  have b10 := F10.binds (ps := ["_law_text_here"]) fun _ _ _ _ _ _ us hl => match us, hl with | [_], _ => rfl
  have F11 := fun_mk (st := s__law_records_right) l11 c11 k11
  have b11 := F11.binds (ps := ["_law_deck_here", "_law_names_here"]) fun _ _ _ _ _ _ us hl => match us, hl with | [_, _], _ => rfl
  have F12 := fun_mk (st := s__law_right) l12 c12 k12
  have b12 := F12.binds (ps := ["_law_text_here"]) fun _ _ _ _ _ _ us hl => match us, hl with | [_], _ => rfl
  have F13 := fun_mk (st := s_law) l13 c13 k13
  have b13 := F13.binds (ps := ["_law_script"]) fun _ _ _ _ _ _ us hl => match us, hl with | [_], _ => rfl
  have vl2 := yv2.length
  have hq2 : ∀ H, Rp K H (.ref q2) c_TONGUE := fun H => .tup (.inr ⟨_, _, _, yl2, rfl, rfl, by rw [← Array.length_toList, ← vl2]; decide, yv2⟩) (Rps.of_strs ["take", "ask", "number", "copy", "mix", "open", "tell", "wipe", "clear", "drop", "choose", "loop", "out", "risk", "fault", "call", "back", "def", "main"])
  have T : Tx K mg := ⟨_, _, F0, b0, PySem.W.mg_of X G a0, _, _, F1, b1, PySem.W.mg_of X G a1, _, _, F2, b2, PySem.W.mg_of X G a2, _, _, F3, b3, PySem.W.mg_of X G a3, _, _, F4, b4, PySem.W.mg_of X G a4, _, _, F5, b5, PySem.W.mg_of X G a5, _, _, F6, b6, PySem.W.mg_of X G a6, _, _, F7, b7, PySem.W.mg_of X G a7, _, _, F8, b8, PySem.W.mg_of X G a8, _, _, F9, b9, PySem.W.mg_of X G a9, _, _, F10, b10, PySem.W.mg_of X G a10, _, _, F11, b11, PySem.W.mg_of X G a11, _, _, F12, b12, PySem.W.mg_of X G a12, _, _, F13, b13, PySem.W.mg_of X G a13, PySem.W.mg_none_of X G z0, PySem.W.mg_none_of X G z1, PySem.W.mg_none_of X G z2, PySem.W.mg_none_of X G z3, PySem.W.mg_none_of X G z4, PySem.W.mg_none_of X G z5, PySem.W.mg_none_of X G z6, PySem.W.mg_none_of X G z7, PySem.W.mg_none_of X G z8, _, (.str "abcdefghijklmnopqrstuvwxyz"), PySem.W.mg_of X G y0, ⟨_, rfl⟩, fun H => .str _, _, (.int 8), PySem.W.mg_of X G y1, ⟨_, rfl⟩, fun H => .int _, _, (.ref q2), PySem.W.mg_of X G y2, rfl, hq2⟩
  exact ⟨_, fun s v => .of_eq rfl, fun base _ _ => ok_law ⟨_, _, F0, b0, PySem.W.mg_of X G a0, _, _, F1, b1, PySem.W.mg_of X G a1, _, _, F2, b2, PySem.W.mg_of X G a2, _, _, F3, b3, PySem.W.mg_of X G a3, _, _, F4, b4, PySem.W.mg_of X G a4, _, _, F5, b5, PySem.W.mg_of X G a5, _, _, F6, b6, PySem.W.mg_of X G a6, _, _, F7, b7, PySem.W.mg_of X G a7, _, _, F8, b8, PySem.W.mg_of X G a8, _, _, F9, b9, PySem.W.mg_of X G a9, _, _, F10, b10, PySem.W.mg_of X G a10, _, _, F11, b11, PySem.W.mg_of X G a11, _, _, F12, b12, PySem.W.mg_of X G a12, _, _, F13, b13, PySem.W.mg_of X G a13, PySem.W.mg_none_of X G z0, PySem.W.mg_none_of X G z1, PySem.W.mg_none_of X G z2, PySem.W.mg_none_of X G z3, PySem.W.mg_none_of X G z4, PySem.W.mg_none_of X G z5, PySem.W.mg_none_of X G z6, PySem.W.mg_none_of X G z7, PySem.W.mg_none_of X G z8, _, (.str "abcdefghijklmnopqrstuvwxyz"), PySem.W.mg_of X G y0, ⟨_, rfl⟩, fun H => .str _, _, (.int 8), PySem.W.mg_of X G y1, ⟨_, rfl⟩, fun H => .int _, _, (.ref q2), PySem.W.mg_of X G y2, rfl, hq2⟩⟩
theorem sp_law (hg : Good) {K : Frag} {H : Hp} {a : Addr} {ns : List Int} (hl : ns.length ≤ 63) (hS : SqL K H a (ns.map V.int)) : spF K 1 [] f_law [.ref a] H (fun v _ => v = .bl true) fun _ _ _ => False := by
  obtain ⟨δ, hδ⟩ := hg ns hl
  refine ⟨rfl, ⟨[], fun _ => none⟩, H, [.sh (.list (ns.map PyData.int))], rfl, ?_, ?_⟩
  · exact {
      ex := Ex.refl H
      fg := fun a o q => nomatch q
      len := rfl
      sh := fun i d q => by
        cases i with
        | zero =>
          cases q
          exact ⟨.ref a, rfl, .lst hS (Rps.of_ints ns)⟩
        | succ j => simp at q
      ow := fun i s q w => by
        cases i with
        | zero => cases q; cases w
        | succ j => simp at q
      ap := fun i j s t a h1 h2 h3 h4 h5 h6 => by
        cases i with
        | zero => cases h1; cases h2
        | succ k => simp at h1
      pin := fun p hp => by simp at hp }
  · rw [hδ]
    intro Hs' H' e r v rv
    cases rv
    rfl
end K01
open PySem PySem.W PyProof.Rows
set_option maxHeartbeats 0 in
theorem PySem.Challenge.cw_wipeways_k01_names_and_boxes_holds : PySem.Challenge.rw_wipeways_k01_names_and_boxes.Holds := by
  w_on; o_law; k_head; (case hw => w_witness2)
  k_fill
  refine L2.walk_of (l := PySem.Challenge.rw_wipeways_k01_names_and_boxes) (n := 63) (k := 5) (x := "_law_script") (CX := fun _ => L2.CX0) (sp := fun w => Dn.spF _ 1 [] K01.f_law) rfl (by decide) rfl ⟨rfl, by decide, by decide⟩ (fun w h Y => PySem.W.kIn_of Y) ?F (fun _ _ a ns hl _ hS => K01.sp_law K01.good hl hS) (fun _ _ _ _ _ h => h)
  case F =>
    intro w mg fa h KX G hmg
    refine' K01.all_mk KX G hmg ?a0 ?l0 ?c0 ?k0 ?a1 ?l1 ?c1 ?k1 ?a2 ?l2 ?c2 ?k2 ?a3 ?l3 ?c3 ?k3 ?a4 ?l4 ?c4 ?k4 ?a5 ?l5 ?c5 ?k5 ?a6 ?l6 ?c6 ?k6 ?a7 ?l7 ?c7 ?k7 ?a8 ?l8 ?c8 ?k8 ?a9 ?l9 ?c9 ?k9 ?a10 ?l10 ?c10 ?k10 ?a11 ?l11 ?c11 ?k11 ?a12 ?l12 ?c12 ?k12 ?a13 ?l13 ?c13 ?k13 ?z0 ?z1 ?z2 ?z3 ?z4 ?z5 ?z6 ?z7 ?z8 ?y0 ?y1 ?y2 ?yl2 ?yv2
    (case a0 => k_is)
    (case l0 => k_is)
    (case c0 => k_is)
    (case k0 => k_is)
    (case a1 => k_is)
    (case l1 => k_is)
    (case c1 => k_is)
    (case k1 => k_is)
    (case a2 => k_is)
    (case l2 => k_is)
    (case c2 => k_is)
    (case k2 => k_is)
    (case a3 => k_is)
    (case l3 => k_is)
    (case c3 => k_is)
    (case k3 => k_is)
    (case a4 => k_is)
    (case l4 => k_is)
    (case c4 => k_is)
    (case k4 => k_is)
    (case a5 => k_is)
    (case l5 => k_is)
    (case c5 => k_is)
    (case k5 => k_is)
    (case a6 => k_is)
    (case l6 => k_is)
    (case c6 => k_is)
    (case k6 => k_is)
    (case a7 => k_is)
    (case l7 => k_is)
    (case c7 => k_is)
    (case k7 => k_is)
    (case a8 => k_is)
    (case l8 => k_is)
    (case c8 => k_is)
    (case k8 => k_is)
    (case a9 => k_is)
    (case l9 => k_is)
    (case c9 => k_is)
    (case k9 => k_is)
    (case a10 => k_is)
    (case l10 => k_is)
    (case c10 => k_is)
    (case k10 => k_is)
    (case a11 => k_is)
    (case l11 => k_is)
    (case c11 => k_is)
    (case k11 => k_is)
    (case a12 => k_is)
    (case l12 => k_is)
    (case c12 => k_is)
    (case k12 => k_is)
    (case a13 => k_is)
    (case l13 => k_is)
    (case c13 => k_is)
    (case k13 => k_is)
    (case z0 => k_is)
    (case z1 => k_is)
    (case z2 => k_is)
    (case z3 => k_is)
    (case z4 => k_is)
    (case z5 => k_is)
    (case z6 => k_is)
    (case z7 => k_is)
    (case z8 => k_is)
    (case y0 => k_is)
    (case y1 => k_is)
    (case y2 => k_is)
    (case yl2 => k_is)
    (case yv2 => repeat (first | exact Paired.nil | refine Paired.cons ⟨_, rfl⟩ ?_))
